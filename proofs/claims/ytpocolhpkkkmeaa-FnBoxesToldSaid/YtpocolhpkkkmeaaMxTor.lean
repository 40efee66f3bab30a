/-
  PROVED: at every input FnBoxesTold returns true, and its arguments read as they did. No condition.
-/
import Derived.Test.YtpocolhpkkkmeaaRows
import Derived.Shelf.Sort.Plain
import Derived.Shelf.Slices.In.SortNone
import Derived.Shelf.Slices.CompactI
import Derived.Test.YtpocolhpkkkmeaaMxTod
set_option linter.unusedSimpArgs false
set_option linter.unusedVariables false
namespace Go.Proofs.Ytpocolhpkkkmeaa.fnBoxesTold
open Go.ChangeShapes Go.WideShapes Go.ChangeAt Go.RowKit
set_option linter.unusedVariables false
def num : List (Nat × Nat) := [(36, 14), (161, 59), (160, 60), (72, 19), (101, 65), (89, 32), (234, 104), (156, 54), (147, 63), (164, 64), (165, 66), (272, 127), (235, 107), (166, 67), (74, 21), (239, 110), (233, 102), (134, 103), (155, 53), (148, 55), (157, 56), (70, 17), (158, 57), (159, 58), (71, 18), (162, 61), (163, 62), (73, 20), (124, 50), (98, 77), (90, 33), (91, 34), (132, 76), (183, 80), (186, 84), (276, 131), (242, 113), (187, 85), (88, 31), (241, 112), (238, 109), (180, 75), (181, 78), (81, 24), (277, 132), (243, 114), (184, 81), (84, 27), (133, 82), (86, 29), (131, 51), (125, 52), (185, 83), (174, 69), (232, 101), (154, 49), (179, 74), (177, 72), (176, 71), (298, 147), (273, 128), (299, 148), (274, 129), (237, 108), (173, 68), (79, 22), (175, 70), (178, 73), (80, 23), (82, 25), (275, 130), (240, 111), (182, 79), (83, 26), (85, 28), (87, 30), (391, 6), (135, 105), (136, 106)]
def tab : List (Nat × Mx.Fn) := [(36, Mx.laws_big.m), (161, Mx.slices_IndexFunc_impl_Mail_impl_Mail.m), (160, Mx.impl_MailAt_1.m), (72, Mx.impl_MailAt.m), (101, Mx.impl_within.m), (89, Mx.impl_NameOk.m), (234, Mx.slices_Index_int_int.m), (156, Mx.slices_Contains_int_int.m), (147, Mx.impl_isGid.m), (164, Mx.impl_StampOk.m), (165, Mx.impl_areGids.m), (272, Mx.impl_RegOk.m), (235, Mx.impl_FlagsOk.m), (166, Mx.impl_MailOk.m), (74, Mx.impl_BoxOk.m), (239, Mx.impl_copyRegs.m), (233, Mx.impl_copyMail.m), (134, Mx.impl_copyInts.m), (155, Mx.impl_copyBox.m), (148, Mx.impl_isFlags.m), (157, Mx.impl_FlagsNew.m), (70, Mx.impl_AddMail.m), (158, Mx.laws_sameInts.m), (159, Mx.spec_SameMail.m), (71, Mx.laws_sameBox.m), (162, Mx.slices_Delete_impl_Mail_impl_Mail.m), (163, Mx.impl_added.m), (73, Mx.impl_TakeOut.m), (124, Mx.spec_l01New.m), (98, Mx.spec_l01In.m), (90, Mx.spec_NameOk.m), (91, Mx.spec_MailAt.m), (132, Mx.spec_l06In.m), (183, Mx.spec_StampOk.m), (186, Mx.spec_l06Sorted.m), (276, Mx.spec_RegOk.m), (242, Mx.spec_FlagsOk.m), (187, Mx.spec_MailOk.m), (88, Mx.spec_BoxOk.m), (241, Mx.spec_l04Copy.m), (238, Mx.spec_l05Copy.m), (180, Mx.spec_l06Copy.m), (181, Mx.spec_FlagsNew.m), (81, Mx.spec_AddMail.m), (277, Mx.spec_Later.m), (243, Mx.spec_PutReg.m), (184, Mx.spec_SetFlags.m), (84, Mx.spec_FlagMail.m), (133, Mx.spec_l06Put.m), (86, Mx.spec_TakeOut.m), (131, Mx.spec_l01Byte.m), (125, Mx.spec_l01Below.m), (185, Mx.spec_l01Pick.m), (174, Mx.spec_l05Text.m), (232, Mx.spec_l03Stamp.m), (154, Mx.spec_l06Box.m), (179, Mx.spec_l01PickInt.m), (177, Mx.spec_l03Any.m), (176, Mx.spec_l01Long.m), (298, Mx.spec_l04Flags.m), (273, Mx.spec_l05Mail.m), (299, Mx.spec_l03Reg.m), (274, Mx.spec_l04Any.m), (237, Mx.spec_l05Any.m), (173, Mx.spec_l06Any.m), (79, Mx.spec_DrawBoxOk.m), (175, Mx.spec_l01Once.m), (178, Mx.spec_l06Pair.m), (80, Mx.spec_DrawAddMail.m), (82, Mx.spec_DrawFlagMail.m), (275, Mx.impl_Later.m), (240, Mx.impl_PutReg.m), (182, Mx.impl_SetFlags.m), (83, Mx.impl_FlagMail.m), (85, Mx.spec_DrawTakeOut.m), (87, Mx.spec_DrawNameOk.m), (391, Mx.laws_FnBoxesTold.m)]
def F : Nat → FuncId := Mx.tabF num
def exts : List (Nat × (List Mx.V → List (Nat × Mx.Ob) → Option (Mx.V × List (Nat × Mx.Ob)))) := [(135, Mx.sortG), (136, Mx.compactG)]
def M : Nat → Option Mx.Body := Mx.tabZ tab exts
/-- the numbers of the library's functions and types here -/
def rho20 : Go.Shelf.Ren := { f := fun n => if n = 20 then 106 else n, t := fun n => if n = 22 then 23 else n, g := fun n => n }
theorem lays20 : Go.Proofs.Lays2.n20 Try.prog rho20 where
  mixed := by kernel_rfl
  f20 := Try.func106.trans (congrArg some (by kernel_rfl))
  t0 := by kernel_rfl
  a0 := fun w => by kernel_rfl
  z0 := fun w => by kernel_rfl
  v0 := fun w => by kernel_rfl
  t3 := by kernel_rfl
  a3 := fun w => by kernel_rfl
  z3 := fun w => by kernel_rfl
  v3 := fun w => by kernel_rfl
  t4 := by kernel_rfl
  a4 := fun w => by kernel_rfl
  z4 := fun w => by kernel_rfl
  v4 := fun w => by kernel_rfl
  t22 := by kernel_rfl
  a22 := fun w => by kernel_rfl
  z22 := fun w => by kernel_rfl
  v22 := fun w => by kernel_rfl
  i3 := by kernel_rfl
/-- the numbers of the library's functions and types here -/
def rho189 : Go.Shelf.Ren := { f := fun n => if n = 189 then 105 else if n = 125 then 126 else if n = 257 then 125 else if n = 128 then 145 else if n = 129 then 146 else if n = 294 then 136 else if n = 295 then 137 else if n = 296 then 138 else if n = 297 then 139 else if n = 298 then 140 else if n = 299 then 141 else if n = 216 then 142 else if n = 300 then 143 else if n = 301 then 144 else if n = 328 then 152 else if n = 329 then 153 else if n = 330 then 154 else if n = 331 then 155 else if n = 332 then 156 else if n = 215 then 157 else if n = 343 then 160 else n, t := fun n => if n = 28 then 23 else if n = 46 then 115 else if n = 51 then 108 else if n = 53 then 151 else if n = 183 then 142 else if n = 182 then 141 else if n = 131 then 147 else if n = 218 then 156 else if n = 222 then 160 else if n = 228 then 166 else if n = 229 then 167 else n, g := fun n => n }
theorem lays189 : Go.Proofs.Lays.n189 Try.prog rho189 where
  mixed := by kernel_rfl
  f125 := Try.func126.trans (congrArg some (by kernel_rfl))
  f128 := Try.func145.trans (congrArg some (by kernel_rfl))
  f129 := Try.func146.trans (congrArg some (by kernel_rfl))
  f189 := Try.func105.trans (congrArg some (by kernel_rfl))
  f215 := Try.func157.trans (congrArg some (by kernel_rfl))
  f216 := Try.func142.trans (congrArg some (by kernel_rfl))
  f257 := Try.func125.trans (congrArg some (by kernel_rfl))
  f294 := Try.func136.trans (congrArg some (by kernel_rfl))
  f295 := Try.func137.trans (congrArg some (by kernel_rfl))
  f296 := Try.func138.trans (congrArg some (by kernel_rfl))
  f297 := Try.func139.trans (congrArg some (by kernel_rfl))
  f298 := Try.func140.trans (congrArg some (by kernel_rfl))
  f299 := Try.func141.trans (congrArg some (by kernel_rfl))
  f300 := Try.func143.trans (congrArg some (by kernel_rfl))
  f301 := Try.func144.trans (congrArg some (by kernel_rfl))
  f328 := Try.func152.trans (congrArg some (by kernel_rfl))
  f329 := Try.func153.trans (congrArg some (by kernel_rfl))
  f330 := Try.func154.trans (congrArg some (by kernel_rfl))
  f331 := Try.func155.trans (congrArg some (by kernel_rfl))
  f332 := Try.func156.trans (congrArg some (by kernel_rfl))
  f343 := Try.func160.trans (congrArg some (by kernel_rfl))
  t0 := by kernel_rfl
  a0 := fun w => by kernel_rfl
  z0 := fun w => by kernel_rfl
  v0 := fun w => by kernel_rfl
  t3 := by kernel_rfl
  a3 := fun w => by kernel_rfl
  z3 := fun w => by kernel_rfl
  v3 := fun w => by kernel_rfl
  t4 := by kernel_rfl
  a4 := fun w => by kernel_rfl
  z4 := fun w => by kernel_rfl
  v4 := fun w => by kernel_rfl
  t5 := by kernel_rfl
  a5 := fun w => by kernel_rfl
  z5 := fun w => by kernel_rfl
  v5 := fun w => by kernel_rfl
  t9 := by kernel_rfl
  a9 := fun w => by kernel_rfl
  z9 := fun w => by kernel_rfl
  v9 := fun w => by kernel_rfl
  t28 := by kernel_rfl
  a28 := fun w => by kernel_rfl
  z28 := fun w => by kernel_rfl
  v28 := fun w => by kernel_rfl
  t46 := by kernel_rfl
  a46 := fun w => by kernel_rfl
  z46 := fun w => by kernel_rfl
  v46 := fun w => by kernel_rfl
  t51 := by kernel_rfl
  a51 := fun w => by kernel_rfl
  z51 := fun w => by kernel_rfl
  v51 := fun w => by kernel_rfl
  t53 := by kernel_rfl
  a53 := fun w => by kernel_rfl
  z53 := fun w => by kernel_rfl
  v53 := fun w => by kernel_rfl
  t131 := by kernel_rfl
  a131 := fun w => by kernel_rfl
  z131 := fun w => by kernel_rfl
  v131 := fun w => by kernel_rfl
  t182 := by kernel_rfl
  a182 := fun w => by kernel_rfl
  z182 := fun w => by kernel_rfl
  v182 := fun w => by kernel_rfl
  t183 := by kernel_rfl
  a183 := fun w => by kernel_rfl
  z183 := fun w => by kernel_rfl
  v183 := fun w => by kernel_rfl
  t218 := by kernel_rfl
  a218 := fun w => by kernel_rfl
  z218 := fun w => by kernel_rfl
  v218 := fun w => by kernel_rfl
  t222 := by kernel_rfl
  a222 := fun w => by kernel_rfl
  z222 := fun w => by kernel_rfl
  v222 := fun w => by kernel_rfl
  t228 := by kernel_rfl
  a228 := fun w => by kernel_rfl
  z228 := fun w => by kernel_rfl
  v228 := fun w => by kernel_rfl
  t229 := by kernel_rfl
  a229 := fun w => by kernel_rfl
  z229 := fun w => by kernel_rfl
  v229 := fun w => by kernel_rfl
theorem ext135 : Mx.ExtOk Try.prog F 135 Mx.sortG :=
  Mx.ext_sort (by kernel_rfl) (fun p cap w => Go.Proofs.Any.slices_Sort_int_none lays189 p cap w) (fun blk off cap zs w h1 h2 h3 => Go.Proofs.Any.slices_Sort_int lays189 blk off cap zs w h1 h2 h3)
theorem ext136 : Mx.ExtOk Try.prog F 136 Mx.compactG :=
  Mx.ext_compact (by kernel_rfl) (fun p cap w => Go.Proofs.Any.slices_Compact_int_empty lays20 p cap w) (fun blk off cap zs w h1 h2 h3 => Go.Proofs.Any.slices_Compact_int lays20 blk off cap zs w h1 h2 h3) Mx.compact_len
theorem ok36 : Mx.okFunc Try.prog F 36 Mx.laws_big.m = true := by kernel_rfl
theorem ok161 : Mx.okFunc Try.prog F 161 Mx.slices_IndexFunc_impl_Mail_impl_Mail.m = true := by kernel_rfl
theorem ok160 : Mx.okFunc Try.prog F 160 Mx.impl_MailAt_1.m = true := by kernel_rfl
theorem ok72 : Mx.okFunc Try.prog F 72 Mx.impl_MailAt.m = true := by kernel_rfl
theorem ok101 : Mx.okFunc Try.prog F 101 Mx.impl_within.m = true := by kernel_rfl
theorem ok89 : Mx.okFunc Try.prog F 89 Mx.impl_NameOk.m = true := by kernel_rfl
theorem ok234 : Mx.okFunc Try.prog F 234 Mx.slices_Index_int_int.m = true := by kernel_rfl
theorem ok156 : Mx.okFunc Try.prog F 156 Mx.slices_Contains_int_int.m = true := by kernel_rfl
theorem ok147 : Mx.okFunc Try.prog F 147 Mx.impl_isGid.m = true := by kernel_rfl
theorem ok164 : Mx.okFunc Try.prog F 164 Mx.impl_StampOk.m = true := by kernel_rfl
theorem ok165 : Mx.okFunc Try.prog F 165 Mx.impl_areGids.m = true := by kernel_rfl
theorem ok272 : Mx.okFunc Try.prog F 272 Mx.impl_RegOk.m = true := by kernel_rfl
theorem ok235 : Mx.okFunc Try.prog F 235 Mx.impl_FlagsOk.m = true := by kernel_rfl
theorem ok166 : Mx.okFunc Try.prog F 166 Mx.impl_MailOk.m = true := by kernel_rfl
theorem ok74 : Mx.okFunc Try.prog F 74 Mx.impl_BoxOk.m = true := by kernel_rfl
theorem ok239 : Mx.okFunc Try.prog F 239 Mx.impl_copyRegs.m = true := by kernel_rfl
theorem ok233 : Mx.okFunc Try.prog F 233 Mx.impl_copyMail.m = true := by kernel_rfl
theorem ok134 : Mx.okFunc Try.prog F 134 Mx.impl_copyInts.m = true := by kernel_rfl
theorem ok155 : Mx.okFunc Try.prog F 155 Mx.impl_copyBox.m = true := by kernel_rfl
theorem ok148 : Mx.okFunc Try.prog F 148 Mx.impl_isFlags.m = true := by kernel_rfl
theorem ok157 : Mx.okFunc Try.prog F 157 Mx.impl_FlagsNew.m = true := by kernel_rfl
theorem ok70 : Mx.okFunc Try.prog F 70 Mx.impl_AddMail.m = true := by kernel_rfl
theorem ok158 : Mx.okFunc Try.prog F 158 Mx.laws_sameInts.m = true := by kernel_rfl
theorem ok159 : Mx.okFunc Try.prog F 159 Mx.spec_SameMail.m = true := by kernel_rfl
theorem ok71 : Mx.okFunc Try.prog F 71 Mx.laws_sameBox.m = true := by kernel_rfl
theorem ok162 : Mx.okFunc Try.prog F 162 Mx.slices_Delete_impl_Mail_impl_Mail.m = true := by kernel_rfl
theorem ok163 : Mx.okFunc Try.prog F 163 Mx.impl_added.m = true := by kernel_rfl
theorem ok73 : Mx.okFunc Try.prog F 73 Mx.impl_TakeOut.m = true := by kernel_rfl
theorem ok124 : Mx.okFunc Try.prog F 124 Mx.spec_l01New.m = true := by kernel_rfl
theorem ok98 : Mx.okFunc Try.prog F 98 Mx.spec_l01In.m = true := by kernel_rfl
theorem ok90 : Mx.okFunc Try.prog F 90 Mx.spec_NameOk.m = true := by kernel_rfl
theorem ok91 : Mx.okFunc Try.prog F 91 Mx.spec_MailAt.m = true := by kernel_rfl
theorem ok132 : Mx.okFunc Try.prog F 132 Mx.spec_l06In.m = true := by kernel_rfl
theorem ok183 : Mx.okFunc Try.prog F 183 Mx.spec_StampOk.m = true := by kernel_rfl
theorem ok186 : Mx.okFunc Try.prog F 186 Mx.spec_l06Sorted.m = true := by kernel_rfl
theorem ok276 : Mx.okFunc Try.prog F 276 Mx.spec_RegOk.m = true := by kernel_rfl
theorem ok242 : Mx.okFunc Try.prog F 242 Mx.spec_FlagsOk.m = true := by kernel_rfl
theorem ok187 : Mx.okFunc Try.prog F 187 Mx.spec_MailOk.m = true := by kernel_rfl
theorem ok88 : Mx.okFunc Try.prog F 88 Mx.spec_BoxOk.m = true := by kernel_rfl
theorem ok241 : Mx.okFunc Try.prog F 241 Mx.spec_l04Copy.m = true := by kernel_rfl
theorem ok238 : Mx.okFunc Try.prog F 238 Mx.spec_l05Copy.m = true := by kernel_rfl
theorem ok180 : Mx.okFunc Try.prog F 180 Mx.spec_l06Copy.m = true := by kernel_rfl
theorem ok181 : Mx.okFunc Try.prog F 181 Mx.spec_FlagsNew.m = true := by kernel_rfl
theorem ok81 : Mx.okFunc Try.prog F 81 Mx.spec_AddMail.m = true := by kernel_rfl
theorem ok277 : Mx.okFunc Try.prog F 277 Mx.spec_Later.m = true := by kernel_rfl
theorem ok243 : Mx.okFunc Try.prog F 243 Mx.spec_PutReg.m = true := by kernel_rfl
theorem ok184 : Mx.okFunc Try.prog F 184 Mx.spec_SetFlags.m = true := by kernel_rfl
theorem ok84 : Mx.okFunc Try.prog F 84 Mx.spec_FlagMail.m = true := by kernel_rfl
theorem ok133 : Mx.okFunc Try.prog F 133 Mx.spec_l06Put.m = true := by kernel_rfl
theorem ok86 : Mx.okFunc Try.prog F 86 Mx.spec_TakeOut.m = true := by kernel_rfl
theorem ok131 : Mx.okFunc Try.prog F 131 Mx.spec_l01Byte.m = true := by kernel_rfl
theorem ok125 : Mx.okFunc Try.prog F 125 Mx.spec_l01Below.m = true := by kernel_rfl
theorem ok185 : Mx.okFunc Try.prog F 185 Mx.spec_l01Pick.m = true := by kernel_rfl
theorem ok174 : Mx.okFunc Try.prog F 174 Mx.spec_l05Text.m = true := by kernel_rfl
theorem ok232 : Mx.okFunc Try.prog F 232 Mx.spec_l03Stamp.m = true := by kernel_rfl
theorem ok154 : Mx.okFunc Try.prog F 154 Mx.spec_l06Box.m = true := by kernel_rfl
theorem ok179 : Mx.okFunc Try.prog F 179 Mx.spec_l01PickInt.m = true := by kernel_rfl
theorem ok177 : Mx.okFunc Try.prog F 177 Mx.spec_l03Any.m = true := by kernel_rfl
theorem ok176 : Mx.okFunc Try.prog F 176 Mx.spec_l01Long.m = true := by kernel_rfl
theorem ok298 : Mx.okFunc Try.prog F 298 Mx.spec_l04Flags.m = true := by kernel_rfl
theorem ok273 : Mx.okFunc Try.prog F 273 Mx.spec_l05Mail.m = true := by kernel_rfl
theorem ok299 : Mx.okFunc Try.prog F 299 Mx.spec_l03Reg.m = true := by kernel_rfl
theorem ok274 : Mx.okFunc Try.prog F 274 Mx.spec_l04Any.m = true := by kernel_rfl
theorem ok237 : Mx.okFunc Try.prog F 237 Mx.spec_l05Any.m = true := by kernel_rfl
theorem ok173 : Mx.okFunc Try.prog F 173 Mx.spec_l06Any.m = true := by kernel_rfl
theorem ok79 : Mx.okFunc Try.prog F 79 Mx.spec_DrawBoxOk.m = true := by kernel_rfl
theorem ok175 : Mx.okFunc Try.prog F 175 Mx.spec_l01Once.m = true := by kernel_rfl
theorem ok178 : Mx.okFunc Try.prog F 178 Mx.spec_l06Pair.m = true := by kernel_rfl
theorem ok80 : Mx.okFunc Try.prog F 80 Mx.spec_DrawAddMail.m = true := by kernel_rfl
theorem ok82 : Mx.okFunc Try.prog F 82 Mx.spec_DrawFlagMail.m = true := by kernel_rfl
theorem ok275 : Mx.okFunc Try.prog F 275 Mx.impl_Later.m = true := by kernel_rfl
theorem ok240 : Mx.okFunc Try.prog F 240 Mx.impl_PutReg.m = true := by kernel_rfl
theorem ok182 : Mx.okFunc Try.prog F 182 Mx.impl_SetFlags.m = true := by kernel_rfl
theorem ok83 : Mx.okFunc Try.prog F 83 Mx.impl_FlagMail.m = true := by kernel_rfl
theorem ok85 : Mx.okFunc Try.prog F 85 Mx.spec_DrawTakeOut.m = true := by kernel_rfl
theorem ok87 : Mx.okFunc Try.prog F 87 Mx.spec_DrawNameOk.m = true := by kernel_rfl
theorem ok391 : Mx.okFunc Try.prog F 391 Mx.laws_FnBoxesTold.m = true := by kernel_rfl
theorem table : Mx.TableOk Try.prog F M := by
  refine Mx.table_extz ?_ ?_
  · simp only [tab, List.forall_mem_cons]
    exact ⟨ok36, ok161, ok160, ok72, ok101, ok89, ok234, ok156, ok147, ok164, ok165, ok272, ok235, ok166, ok74, ok239, ok233, ok134, ok155, ok148, ok157, ok70, ok158, ok159, ok71, ok162, ok163, ok73, ok124, ok98, ok90, ok91, ok132, ok183, ok186, ok276, ok242, ok187, ok88, ok241, ok238, ok180, ok181, ok81, ok277, ok243, ok184, ok84, ok133, ok86, ok131, ok125, ok185, ok174, ok232, ok154, ok179, ok177, ok176, ok298, ok273, ok299, ok274, ok237, ok173, ok79, ok175, ok178, ok80, ok82, ok275, ok240, ok182, ok83, ok85, ok87, ok391, by simp⟩
  · simp only [exts, List.forall_mem_cons]
    exact ⟨ext135, ext136, by simp⟩
theorem k36 : Mx.laws_big.k M := rfl
theorem k161 : Mx.slices_IndexFunc_impl_Mail_impl_Mail.k M := rfl
theorem k160 : Mx.impl_MailAt_1.k M := rfl
theorem k72 : Mx.impl_MailAt.k M := ⟨rfl, k160, k161⟩
theorem k101 : Mx.impl_within.k M := rfl
theorem k89 : Mx.impl_NameOk.k M := ⟨rfl, k101⟩
theorem k234 : Mx.slices_Index_int_int.k M := rfl
theorem k156 : Mx.slices_Contains_int_int.k M := ⟨rfl, k234⟩
theorem k147 : Mx.impl_isGid.k M := ⟨rfl, k101⟩
theorem k164 : Mx.impl_StampOk.k M := ⟨rfl, k101⟩
theorem k165 : Mx.impl_areGids.k M := ⟨rfl, k147⟩
theorem k272 : Mx.impl_RegOk.k M := ⟨rfl, k101, k164⟩
theorem k235 : Mx.impl_FlagsOk.k M := ⟨rfl, k272⟩
theorem k166 : Mx.impl_MailOk.k M := ⟨rfl, k147, k235⟩
theorem k74 : Mx.impl_BoxOk.k M := ⟨rfl, k72, k89, k101, k147, k156, k164, k165, k166⟩
theorem k239 : Mx.impl_copyRegs.k M := rfl
theorem k233 : Mx.impl_copyMail.k M := ⟨rfl, k239⟩
theorem k134 : Mx.impl_copyInts.k M := rfl
theorem k155 : Mx.impl_copyBox.k M := ⟨rfl, k134, k233⟩
theorem k148 : Mx.impl_isFlags.k M := ⟨rfl, k101⟩
theorem k157 : Mx.impl_FlagsNew.k M := rfl
theorem k70 : Mx.impl_AddMail.k M := ⟨rfl, k72, k74, k148, k155, k156, k157⟩
theorem k158 : Mx.laws_sameInts.k M := rfl
theorem k159 : Mx.spec_SameMail.k M := rfl
theorem k71 : Mx.laws_sameBox.k M := ⟨rfl, k158, k159⟩
theorem k162 : Mx.slices_Delete_impl_Mail_impl_Mail.k M := rfl
theorem k163 : Mx.impl_added.k M := ⟨rfl, k134, rfl, rfl⟩
theorem k73 : Mx.impl_TakeOut.k M := ⟨rfl, k72, k74, k155, k162, k163⟩
theorem k124 : Mx.spec_l01New.k M := rfl
theorem k98 : Mx.spec_l01In.k M := rfl
theorem k90 : Mx.spec_NameOk.k M := ⟨rfl, k98⟩
theorem k91 : Mx.spec_MailAt.k M := rfl
theorem k132 : Mx.spec_l06In.k M := rfl
theorem k183 : Mx.spec_StampOk.k M := ⟨rfl, k98⟩
theorem k186 : Mx.spec_l06Sorted.k M := ⟨rfl, k98⟩
theorem k276 : Mx.spec_RegOk.k M := ⟨rfl, k98, k183⟩
theorem k242 : Mx.spec_FlagsOk.k M := ⟨rfl, k276⟩
theorem k187 : Mx.spec_MailOk.k M := ⟨rfl, k98, k242⟩
theorem k88 : Mx.spec_BoxOk.k M := ⟨rfl, k90, k91, k98, k132, k183, k186, k187⟩
theorem k241 : Mx.spec_l04Copy.k M := rfl
theorem k238 : Mx.spec_l05Copy.k M := ⟨rfl, k241⟩
theorem k180 : Mx.spec_l06Copy.k M := ⟨rfl, k238⟩
theorem k181 : Mx.spec_FlagsNew.k M := rfl
theorem k81 : Mx.spec_AddMail.k M := ⟨rfl, k88, k91, k98, k132, k180, k181⟩
theorem k277 : Mx.spec_Later.k M := rfl
theorem k243 : Mx.spec_PutReg.k M := ⟨rfl, k276, k277⟩
theorem k184 : Mx.spec_SetFlags.k M := ⟨rfl, k98, k241, k242, k243⟩
theorem k84 : Mx.spec_FlagMail.k M := ⟨rfl, k88, k91, k98, k180, k183, k184⟩
theorem k133 : Mx.spec_l06Put.k M := rfl
theorem k86 : Mx.spec_TakeOut.k M := ⟨rfl, k88, k91, k133, k180⟩
theorem k131 : Mx.spec_l01Byte.k M := rfl
theorem k125 : Mx.spec_l01Below.k M := ⟨rfl, k131⟩
theorem k185 : Mx.spec_l01Pick.k M := ⟨rfl, k125⟩
theorem k174 : Mx.spec_l05Text.k M := ⟨rfl, k185⟩
theorem k232 : Mx.spec_l03Stamp.k M := ⟨rfl, k125⟩
theorem k154 : Mx.spec_l06Box.k M := ⟨rfl, k81, k84, k86, k125, k174, k185, k232⟩
theorem k179 : Mx.spec_l01PickInt.k M := ⟨rfl, k125⟩
theorem k177 : Mx.spec_l03Any.k M := ⟨rfl, k125, k179, k232⟩
theorem k176 : Mx.spec_l01Long.k M := rfl
theorem k298 : Mx.spec_l04Flags.k M := ⟨rfl, k125, k232⟩
theorem k273 : Mx.spec_l05Mail.k M := ⟨rfl, k125, k174, k298⟩
theorem k299 : Mx.spec_l03Reg.k M := ⟨rfl, k177, k179⟩
theorem k274 : Mx.spec_l04Any.k M := ⟨rfl, k125, k298, k299⟩
theorem k237 : Mx.spec_l05Any.k M := ⟨rfl, k125, k176, k273, k274⟩
theorem k173 : Mx.spec_l06Any.k M := ⟨rfl, k125, k154, k177, k180, k237⟩
theorem k79 : Mx.spec_DrawBoxOk.k M := ⟨rfl, k124, k173⟩
theorem k175 : Mx.spec_l01Once.k M := ⟨rfl, k125⟩
theorem k178 : Mx.spec_l06Pair.k M := ⟨rfl, k124, k125, k173⟩
theorem k80 : Mx.spec_DrawAddMail.k M := ⟨rfl, k124, k125, k174, k175, k176, k177, k178, k179⟩
theorem k82 : Mx.spec_DrawFlagMail.k M := ⟨rfl, k124, k125, k177, k178⟩
theorem k275 : Mx.impl_Later.k M := rfl
theorem k240 : Mx.impl_PutReg.k M := ⟨rfl, k272, k275⟩
theorem k182 : Mx.impl_SetFlags.k M := ⟨rfl, k148, k235, k239, k240⟩
theorem k83 : Mx.impl_FlagMail.k M := ⟨rfl, k72, k74, k148, k155, k164, k182⟩
theorem k85 : Mx.spec_DrawTakeOut.k M := ⟨rfl, k178⟩
theorem k87 : Mx.spec_DrawNameOk.k M := ⟨rfl, k124, k185⟩
theorem k391 : Mx.laws_FnBoxesTold.k M := ⟨rfl, k36, k70, k71, k72, k73, k74, k79, k80, k81, k82, k83, k84, k85, k86, k87, k88, k89, k90, k91⟩

theorem own : ownKnob Try.prog.godebug = none := by kernel_rfl
set_option maxRecDepth 100000 in
theorem lifted (os : Os) (started : os.Started) (H : Type) (enc : TypeId × Value → H) :
    ReturnsInHanded {} Try.checked os 6 .any (Rows.fnBoxesToldSpec.pre6 enc Try.prog Try.f6 Rows.fnBoxesToldRow.domain false) (Rows.fnBoxesToldSpec.post enc Try.prog Try.f6 false true false false) := by
  refine Mx.lift_row (C := Try.checked) (F := F) (M := M) (fn := Try.f6) (rt := 4) table 391 60 [.cell (.sl [.int .u8])] own started (by kernel_rfl) Try.func6
    (ChangeSpec.witness6 (enc := enc) (C := Try.checked) false ⟨#[], #[.slice none 0 0], []⟩ 12 (by kernel_rfl) (by kernel_rfl) (by kernel_rfl) (by kernel_rfl))
    (by kernel_rfl) (by kernel_rfl) (by rfl) (by kernel_rfl) rfl (fun ds h => ?_) (fun xs h => ?_)
  · match ds, h with
    | [d0], _ => rfl
  · have k := k391
    exact Mx.laws_FnBoxesTold.row k h
theorem over : Rows.fnBoxesToldRow.holds Try.pinned (OpenSpec.ofChange Rows.fnBoxesToldSpec) :=
  OpenClaim.holds_of_wide 6 Try.f6 rfl rfl rfl rfl rfl rfl rfl ⟨rfl, rfl, rfl, rfl, rfl⟩ rfl rfl rfl rfl rfl (by kernel_rfl) Try.func6 (by kernel_rfl)
    (of_decide_eq_true (by kernel_rfl)) (by unfold Func.isWrapper; first | (rw [if_pos (by decide +kernel)]; kernel_rfl) | (rw [if_neg (by decide +kernel)]; exact ⟨rfl, rfl⟩))
    (fun os started H enc _ => lifted os started H enc)
theorem proved : Rows.FnBoxesToldSaid := over
#print axioms proved
end Go.Proofs.Ytpocolhpkkkmeaa.fnBoxesTold

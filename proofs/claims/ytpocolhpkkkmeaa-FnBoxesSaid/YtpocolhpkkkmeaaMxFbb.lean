/-
  Small codes: spec.l04Copy, spec.l05Copy, spec.l06Copy, spec.FlagsNew, spec.AddMail, spec.Later, spec.PutReg, spec.SetFlags, spec.FlagMail, spec.TakeOut.
-/
import Derived.Test.YtpocolhpkkkmeaaMxFb
import Derived.Test.YtpocolhpkkkmeaaMxB
import Derived.Lib.SlicesCompact
set_option linter.unusedSimpArgs false
set_option linter.unusedVariables false
namespace Mx
open Go
def spec_l04Copy.b : C := .seq (.reg [⟨some 2, .nil 3, none⟩] [0] [])
  (.seq (.reg [⟨some 3, .bslice 3 0 [.int .i64 0, .int .i64 0, .int .i64 0] [], none⟩,
    ⟨some 4, .mv (.t 0), none⟩,
    ⟨some 5, .app 3 24 (.t 3) (.t 4), none⟩,
    ⟨some 2, .mv (.t 5), none⟩] [2] [2, 3, 5])
  (.ret))
def spec_l04Copy.m : Fn := { np := 1, body := spec_l04Copy.b, res := [.tmp 2] }
def spec_l04Copy.k (M : Nat → Option Body) : Prop := M 241 = some (.code spec_l04Copy.m)
def spec_l05Copy.b : C := .seq (.reg [⟨some 1, .box (.t 0), none⟩,
    ⟨some 2, .alloc [.int .i64 0, .int .i64 0, .nils 3, .str ⟨#[]⟩], none⟩] [1, 2] [1, 2, 10500])
  (.seq (.reg [⟨some 3, .faddr 2 (.t 1), none⟩,
    ⟨some 4, .load false 1 (.t 3), none⟩,
    ⟨some 5, .call 241 [.t 4] [] [(0, 10500)], none⟩,
    ⟨some 6, .faddr 2 (.t 1), none⟩,
    ⟨none, .store 1 (.t 6) (.t 5), none⟩] [1, 2] [1, 2, 10500])
  (.seq (.reg [⟨some 7, .load true 4 (.t 1), none⟩,
    ⟨none, .store 4 (.t 2) (.t 7), none⟩] [2] [2, 10500])
  (.ret)))
def spec_l05Copy.m : Fn := { np := 1, body := spec_l05Copy.b, res := [.cell 2 true 4] }
def spec_l05Copy.k (M : Nat → Option Body) : Prop := M 238 = some (.code spec_l05Copy.m) ∧ spec_l04Copy.k M
def spec_l06Copy.l0 : C := .seq (.seq (.reg [⟨some 8, .mv (.t 4), none⟩,
    ⟨some 9, .faddr 5 (.t 1), none⟩,
    ⟨some 10, .load false 1 (.t 9), none⟩,
    ⟨some 11, .len (.t 10), none⟩,
    ⟨some 12, .bin .lss (.t 8) (.t 11), none⟩] [1, 2, 3, 4, 12] [1, 2, 3, 6, 24, 26, 29])
  (.cond (.t 12) (.skip) (.exit 0)))
  (.seq (.block 1 (.regd [⟨some 15, .faddr 5 (.t 3), none⟩,
    ⟨some 16, .load false 1 (.t 15), none⟩,
    ⟨some 17, .faddr 5 (.t 1), none⟩,
    ⟨some 18, .load false 1 (.t 17), none⟩,
    ⟨some 19, .mv (.t 4), none⟩,
    ⟨some 20, .iaddr 4 (.t 18) (.t 19), none⟩,
    ⟨some 21, .load true 4 (.t 20), none⟩,
    ⟨some 22, .call 238 [.t 21] [] [], none⟩,
    ⟨some 23, .bslice 4 1 [.int .i64 0, .int .i64 0, .nils 3, .str ⟨#[]⟩] [(0, .t 22)], none⟩,
    ⟨some 24, .app 4 56 (.t 16) (.t 23), none⟩,
    ⟨some 25, .faddr 5 (.t 3), none⟩,
    ⟨none, .store 1 (.t 25) (.t 24), none⟩] [[], [0], [], [2], [], [2, 3, 4], [2, 3, 4, 5], [2, 3, 4, 5, 6], [2, 3, 4, 5, 6, 7], List.range 9, List.range 10, List.range 11] [1, 2, 3, 4] [1, 2, 3, 6, 24, 26, 29]))
  (.reg [⟨some 13, .mv (.t 4), none⟩,
    ⟨some 14, .bin .add (.t 13) (.k (.int .i64 1)), none⟩,
    ⟨some 4, .mv (.t 14), none⟩] [1, 2, 3, 4] [1, 2, 3, 6, 24, 26, 29]))
def spec_l06Copy.b : C := .seq (.reg [⟨some 1, .box (.t 0), none⟩,
    ⟨some 2, .alloc [.int .i64 0, .str ⟨#[]⟩, .int .i64 0, .int .i64 0, .int .i64 0, .nils 4, .nils 1], none⟩] [1, 2] [1, 2, 6, 24, 26, 29])
  (.seq (.reg [⟨some 5, .load true 7 (.t 1), none⟩,
    ⟨some 3, .alloc [.int .i64 0, .str ⟨#[]⟩, .int .i64 0, .int .i64 0, .int .i64 0, .nils 4, .nils 1], none⟩,
    ⟨none, .store 7 (.t 3) (.t 5), none⟩] [1, 2, 3] [1, 2, 3, 6, 24, 26, 29])
  (.seq (.reg [⟨some 6, .bslice 4 0 [.int .i64 0, .int .i64 0, .nils 3, .str ⟨#[]⟩] [], none⟩,
    ⟨some 7, .faddr 5 (.t 3), none⟩,
    ⟨none, .store 1 (.t 7) (.t 6), none⟩] [1, 2, 3] [1, 2, 3, 6, 24, 26, 29])
  (.seq (.seq (.reg [⟨some 4, .mv (.k (.int .i64 0)), none⟩] [1, 2, 3, 4] [1, 2, 3, 6, 24, 26, 29])
  (.block 0 (.loop spec_l06Copy.l0)))
  (.seq (.reg [⟨some 26, .bslice 1 0 [.int .i64 0] [], none⟩,
    ⟨some 27, .faddr 6 (.t 1), none⟩,
    ⟨some 28, .load false 1 (.t 27), none⟩,
    ⟨some 29, .app 1 8 (.t 26) (.t 28), none⟩,
    ⟨some 30, .faddr 6 (.t 3), none⟩,
    ⟨none, .store 1 (.t 30) (.t 29), none⟩] [2, 3] [2, 3, 6, 24, 26, 29])
  (.seq (.reg [⟨some 31, .load true 7 (.t 3), none⟩,
    ⟨none, .store 7 (.t 2) (.t 31), none⟩] [2] [2, 6, 24, 26, 29])
  (.ret))))))
def spec_l06Copy.m : Fn := { np := 1, body := spec_l06Copy.b, res := [.cell 2 true 7] }
def spec_l06Copy.k (M : Nat → Option Body) : Prop := M 180 = some (.code spec_l06Copy.m) ∧ spec_l05Copy.k M
def spec_FlagsNew.l0 : C := .seq (.seq (.reg [⟨some 9, .mv (.t 6), none⟩,
    ⟨some 10, .bin .lss (.t 9) (.k (.int .i64 3)), none⟩] [0, 3, 5, 6, 10] [3, 8, 24])
  (.cond (.t 10) (.skip) (.exit 0)))
  (.seq (.block 1 (.seq (.reg [⟨some 7, .mv (.k (.int .i64 0)), none⟩] [0, 3, 5, 6, 7] [3, 8, 24])
  (.seq (.seq (.reg [⟨some 13, .mv (.t 0), none⟩,
    ⟨some 14, .mv (.t 6), none⟩,
    ⟨some 15, .i2i .u64 (.t 14), none⟩,
    ⟨some 16, .bin .shr (.t 13) (.t 15), none⟩,
    ⟨some 17, .bin .rem (.t 16) (.k (.int .i64 2)), none⟩,
    ⟨some 18, .bin .neq (.t 17) (.k (.int .i64 0)), none⟩] [0, 3, 5, 6, 7, 18] [3, 8, 24])
  (.cond (.t 18) (.reg [⟨some 7, .mv (.k (.int .i64 1)), none⟩] [0, 3, 5, 6, 7] [3, 8, 24]) (.skip)))
  (.reg [⟨some 19, .mv (.t 5), none⟩,
    ⟨some 20, .mv (.t 7), none⟩,
    ⟨some 21, .load true 2 (.t 3), none⟩,
    ⟨some 22, .build [.int .i64 0, .int .i64 0, .int .i64 0] [(0, 1, .t 20), (1, 2, .t 21)], none⟩,
    ⟨some 23, .bslice 3 1 [.int .i64 0, .int .i64 0, .int .i64 0] [(0, .t 22)], none⟩,
    ⟨some 24, .app 3 24 (.t 19) (.t 23), none⟩,
    ⟨some 5, .mv (.t 24), none⟩] [0, 3, 5, 6] [3, 8, 24]))))
  (.reg [⟨some 11, .mv (.t 6), none⟩,
    ⟨some 12, .bin .add (.t 11) (.k (.int .i64 1)), none⟩,
    ⟨some 6, .mv (.t 12), none⟩] [0, 3, 5, 6] [3, 8, 24]))
def spec_FlagsNew.b : C := .seq (.reg [⟨some 3, .box (.t 1), none⟩,
    ⟨some 4, .nil 3, none⟩] [0, 3] [3])
  (.seq (.reg [⟨some 8, .bslice 3 0 [.int .i64 0, .int .i64 0, .int .i64 0] [], none⟩,
    ⟨some 5, .mv (.t 8), none⟩] [0, 3, 5] [3, 8, 24])
  (.seq (.seq (.reg [⟨some 6, .mv (.k (.int .i64 0)), none⟩] [0, 3, 5, 6] [3, 8, 24])
  (.block 0 (.loop spec_FlagsNew.l0)))
  (.seq (.reg [⟨some 25, .mv (.t 5), none⟩,
    ⟨some 4, .mv (.t 25), none⟩] [4] [4, 8, 24])
  (.ret))))
def spec_FlagsNew.m : Fn := { np := 2, body := spec_FlagsNew.b, res := [.tmp 4] }
def spec_FlagsNew.k (M : Nat → Option Body) : Prop := M 181 = some (.code spec_FlagsNew.m)
def spec_AddMail.b : C := .seq (.reg [⟨some 5, .box (.t 0), none⟩,
    ⟨some 9, .box (.t 4), none⟩,
    ⟨some 10, .alloc [.int .i64 0, .str ⟨#[]⟩, .int .i64 0, .int .i64 0, .int .i64 0, .nils 4, .nils 1], none⟩,
    ⟨some 11, .mv (.k (.bool false)), none⟩] [1, 2, 3, 5, 9, 10] [5, 9, 10, 47, 11405, 11406, 15705, 15706])
  (.seq (.reg [⟨some 13, .load true 7 (.t 5), none⟩,
    ⟨some 14, .call 180 [.t 13] [] [(5, 11405), (6, 11406)], none⟩,
    ⟨some 12, .alloc [.int .i64 0, .str ⟨#[]⟩, .int .i64 0, .int .i64 0, .int .i64 0, .nils 4, .nils 1], none⟩,
    ⟨none, .store 7 (.t 12) (.t 14), none⟩] [1, 2, 3, 5, 9, 10, 12] [5, 9, 10, 12, 47, 11405, 11406, 15705, 15706])
  (.seq (.seq (.reg [⟨some 15, .load true 7 (.t 5), none⟩,
    ⟨some 16, .call 88 [.t 15] [] [], none⟩,
    ⟨some 17, .not (.t 16), none⟩,
    ⟨some 18, .mv (.t 17), none⟩,
    ⟨some 19, .load true 7 (.t 5), some (18, false)⟩,
    ⟨some 20, .mv (.t 1), some (18, false)⟩,
    ⟨some 21, .call 91 [.t 19, .t 20] [] [], some (18, false)⟩,
    ⟨some 22, .bin .geq (.t 21) (.k (.int .i64 0)), some (18, false)⟩,
    ⟨some 23, .pick (.t 18) (.k (.bool true)) (.t 22), none⟩,
    ⟨some 24, .mv (.t 23), none⟩,
    ⟨some 25, .faddr 6 (.t 5), some (24, false)⟩,
    ⟨some 26, .load false 1 (.t 25), some (24, false)⟩,
    ⟨some 27, .mv (.t 1), some (24, false)⟩,
    ⟨some 28, .call 132 [.t 26, .t 27] [] [], some (24, false)⟩,
    ⟨some 29, .pick (.t 24) (.k (.bool true)) (.t 28), none⟩,
    ⟨some 30, .mv (.t 29), none⟩,
    ⟨some 31, .mv (.t 2), some (30, false)⟩,
    ⟨some 32, .call 98 [.t 31, .k (.int .i64 0), .k (.int .i64 7)] [] [], some (30, false)⟩,
    ⟨some 33, .not (.t 32), some (30, false)⟩,
    ⟨some 34, .pick (.t 30) (.k (.bool true)) (.t 33), none⟩] [1, 2, 3, 5, 9, 10, 12, 34] [5, 9, 10, 12, 47, 11405, 11406, 15705, 15706])
  (.cond (.t 34) (.seq (.reg [⟨some 35, .load true 7 (.t 12), none⟩,
    ⟨none, .store 7 (.t 10) (.t 35), none⟩,
    ⟨some 11, .mv (.k (.bool false)), none⟩] [10, 11] [10, 47, 11405, 11406, 15705, 15706])
  (.ret)) (.skip)))
  (.seq (.regd [⟨some 36, .faddr 5 (.t 12), none⟩,
    ⟨some 37, .load false 1 (.t 36), none⟩,
    ⟨some 38, .mv (.t 1), none⟩,
    ⟨some 39, .faddr 4 (.t 5), none⟩,
    ⟨some 40, .load false 1 (.t 39), none⟩,
    ⟨some 41, .mv (.t 2), none⟩,
    ⟨some 42, .load true 2 (.t 9), none⟩,
    ⟨some 43, .call 181 [.t 41, .t 42] [] [], none⟩,
    ⟨some 44, .mv (.t 3), none⟩,
    ⟨some 45, .build [.int .i64 0, .int .i64 0, .nils 3, .str ⟨#[]⟩] [(0, 1, .t 38), (1, 1, .t 40), (2, 1, .t 43), (3, 1, .t 44)], none⟩,
    ⟨some 46, .bslice 4 1 [.int .i64 0, .int .i64 0, .nils 3, .str ⟨#[]⟩] [(0, .t 45)], none⟩,
    ⟨some 47, .app 4 56 (.t 37) (.t 46), none⟩,
    ⟨some 48, .faddr 5 (.t 12), none⟩,
    ⟨none, .store 1 (.t 48) (.t 47), none⟩] [[], [0], [], [], [3], [], [], [5, 6], [], [2, 3, 4, 5, 6, 7, 8], [2, 3, 4, 5, 6, 7, 8, 9], List.range 11, List.range 12, List.range 13] [5, 10, 12] [5, 10, 12, 47, 11405, 11406, 15705, 15706])
  (.seq (.reg [⟨some 49, .faddr 4 (.t 5), none⟩,
    ⟨some 50, .load false 1 (.t 49), none⟩,
    ⟨some 51, .bin .add (.t 50) (.k (.int .i64 1)), none⟩,
    ⟨some 52, .faddr 4 (.t 12), none⟩,
    ⟨none, .store 1 (.t 52) (.t 51), none⟩] [5, 10, 12] [5, 10, 12, 47, 11405, 11406, 15705, 15706])
  (.seq (.seq (.reg [⟨some 53, .load true 7 (.t 12), none⟩,
    ⟨some 54, .call 88 [.t 53] [] [], none⟩,
    ⟨some 55, .not (.t 54), none⟩] [5, 10, 12, 55] [5, 10, 12, 47, 11405, 11406, 15705, 15706])
  (.cond (.t 55) (.seq (.reg [⟨some 56, .load true 7 (.t 5), none⟩,
    ⟨some 57, .call 180 [.t 56] [] [(5, 15705), (6, 15706)], none⟩,
    ⟨none, .store 7 (.t 10) (.t 57), none⟩,
    ⟨some 11, .mv (.k (.bool false)), none⟩] [10, 11] [10, 47, 11405, 11406, 15705, 15706])
  (.ret)) (.skip)))
  (.seq (.reg [⟨some 58, .load true 7 (.t 12), none⟩,
    ⟨none, .store 7 (.t 10) (.t 58), none⟩,
    ⟨some 11, .mv (.k (.bool true)), none⟩] [10, 11] [10, 47, 11405, 11406, 15705, 15706])
  (.ret)))))))
def spec_AddMail.m : Fn := { np := 5, body := spec_AddMail.b, res := [.cell 10 true 7, .tmp 11] }
def spec_AddMail.k (M : Nat → Option Body) : Prop := M 81 = some (.code spec_AddMail.m) ∧ spec_BoxOk.k M ∧ spec_MailAt.k M ∧ spec_l01In.k M ∧ spec_l06In.k M ∧ spec_l06Copy.k M ∧ spec_FlagsNew.k M
def spec_Later.b : C := .seq (.reg [⟨some 2, .box (.t 0), none⟩,
    ⟨some 3, .box (.t 1), none⟩,
    ⟨some 4, .mv (.k (.bool false)), none⟩] [2, 3] [2, 3])
  (.seq (.seq (.reg [⟨some 5, .faddr 0 (.t 2), none⟩,
    ⟨some 6, .load false 1 (.t 5), none⟩,
    ⟨some 7, .faddr 0 (.t 3), none⟩,
    ⟨some 8, .load false 1 (.t 7), none⟩,
    ⟨some 9, .bin .neq (.t 6) (.t 8), none⟩] [2, 3, 9] [2, 3])
  (.cond (.t 9) (.seq (.reg [⟨some 10, .faddr 0 (.t 2), none⟩,
    ⟨some 11, .load false 1 (.t 10), none⟩,
    ⟨some 12, .faddr 0 (.t 3), none⟩,
    ⟨some 13, .load false 1 (.t 12), none⟩,
    ⟨some 14, .bin .gtr (.t 11) (.t 13), none⟩,
    ⟨some 4, .mv (.t 14), none⟩] [4] [])
  (.ret)) (.skip)))
  (.seq (.reg [⟨some 15, .faddr 1 (.t 2), none⟩,
    ⟨some 16, .load false 1 (.t 15), none⟩,
    ⟨some 17, .faddr 1 (.t 3), none⟩,
    ⟨some 18, .load false 1 (.t 17), none⟩,
    ⟨some 19, .bin .gtr (.t 16) (.t 18), none⟩,
    ⟨some 4, .mv (.t 19), none⟩] [4] [])
  (.ret)))
def spec_Later.m : Fn := { np := 2, body := spec_Later.b, res := [.tmp 4] }
def spec_Later.k (M : Nat → Option Body) : Prop := M 277 = some (.code spec_Later.m)
def spec_PutReg.b : C := .seq (.reg [⟨some 3, .box (.t 0), none⟩,
    ⟨some 5, .box (.t 2), none⟩,
    ⟨some 6, .alloc [.int .i64 0, .int .i64 0, .int .i64 0], none⟩] [1, 3, 5, 6] [3, 5, 6])
  (.seq (.reg [⟨some 8, .mv (.t 1), none⟩,
    ⟨some 9, .load true 2 (.t 5), none⟩,
    ⟨some 10, .build [.int .i64 0, .int .i64 0, .int .i64 0] [(0, 1, .t 8), (1, 2, .t 9)], none⟩,
    ⟨some 7, .alloc [.int .i64 0, .int .i64 0, .int .i64 0], none⟩,
    ⟨none, .store 3 (.t 7) (.t 10), none⟩] [3, 5, 6, 7] [3, 5, 6, 7])
  (.seq (.seq (.reg [⟨some 11, .load true 2 (.t 5), none⟩,
    ⟨some 12, .faddr 1 (.t 3), none⟩,
    ⟨some 13, .load true 2 (.t 12), none⟩,
    ⟨some 14, .call 277 [.t 11, .t 13] [] [], none⟩,
    ⟨some 15, .not (.t 14), none⟩,
    ⟨some 16, .mv (.t 15), none⟩,
    ⟨some 17, .load true 3 (.t 7), some (16, false)⟩,
    ⟨some 18, .call 276 [.t 17] [] [], some (16, false)⟩,
    ⟨some 19, .not (.t 18), some (16, false)⟩,
    ⟨some 20, .pick (.t 16) (.k (.bool true)) (.t 19), none⟩] [3, 6, 7, 20] [3, 6, 7])
  (.cond (.t 20) (.seq (.reg [⟨some 21, .load true 3 (.t 3), none⟩,
    ⟨none, .store 3 (.t 6) (.t 21), none⟩] [6] [6])
  (.ret)) (.skip)))
  (.seq (.reg [⟨some 22, .load true 3 (.t 7), none⟩,
    ⟨none, .store 3 (.t 6) (.t 22), none⟩] [6] [6])
  (.ret))))
def spec_PutReg.m : Fn := { np := 3, body := spec_PutReg.b, res := [.cell 6 true 3] }
def spec_PutReg.k (M : Nat → Option Body) : Prop := M 243 = some (.code spec_PutReg.m) ∧ spec_RegOk.k M ∧ spec_Later.k M
def spec_SetFlags.l0 : C := .seq (.seq (.reg [⟨some 21, .mv (.t 8), none⟩,
    ⟨some 22, .mv (.t 7), none⟩,
    ⟨some 23, .len (.t 22), none⟩,
    ⟨some 24, .bin .lss (.t 21) (.t 23), none⟩] [1, 5, 7, 8, 24] [5, 11100])
  (.cond (.t 24) (.skip) (.exit 0)))
  (.seq (.block 1 (.seq (.reg [⟨some 27, .mv (.t 1), none⟩,
    ⟨some 28, .mv (.t 8), none⟩,
    ⟨some 29, .i2i .u64 (.t 28), none⟩,
    ⟨some 30, .bin .shr (.t 27) (.t 29), none⟩,
    ⟨some 31, .bin .rem (.t 30) (.k (.int .i64 2)), none⟩,
    ⟨some 9, .mv (.t 31), none⟩] [1, 5, 7, 8, 9] [5, 11100])
  (.seq (.reg [⟨some 32, .mv (.t 7), none⟩,
    ⟨some 33, .mv (.t 8), none⟩,
    ⟨some 34, .iaddr 3 (.t 32) (.t 33), none⟩,
    ⟨some 35, .faddr 0 (.t 34), none⟩,
    ⟨some 36, .load false 1 (.t 35), none⟩,
    ⟨some 37, .mv (.t 9), none⟩,
    ⟨some 38, .bin .neq (.t 36) (.t 37), none⟩] [1, 5, 7, 8, 9, 38] [5, 11100])
  (.cond (.t 38) (.regd [⟨some 39, .mv (.t 7), none⟩,
    ⟨some 40, .mv (.t 8), none⟩,
    ⟨some 41, .mv (.t 7), none⟩,
    ⟨some 42, .mv (.t 8), none⟩,
    ⟨some 43, .iaddr 3 (.t 41) (.t 42), none⟩,
    ⟨some 44, .load true 3 (.t 43), none⟩,
    ⟨some 45, .mv (.t 9), none⟩,
    ⟨some 46, .load true 2 (.t 5), none⟩,
    ⟨some 47, .call 243 [.t 44, .t 45, .t 46] [] [], none⟩,
    ⟨some 48, .iaddr 3 (.t 39) (.t 40), none⟩,
    ⟨none, .store 3 (.t 48) (.t 47), none⟩] [[], [], [], [], [2, 3], [2, 3, 4], [], [], [2, 3, 4, 5, 6, 7], List.range 9, List.range 10] [1, 5, 7, 8] [5, 11100]) (.skip)))))
  (.reg [⟨some 25, .mv (.t 8), none⟩,
    ⟨some 26, .bin .add (.t 25) (.k (.int .i64 1)), none⟩,
    ⟨some 8, .mv (.t 26), none⟩] [1, 5, 7, 8] [5, 11100]))
def spec_SetFlags.b : C := .seq (.reg [⟨some 5, .box (.t 2), none⟩,
    ⟨some 6, .nil 3, none⟩] [0, 1, 5] [5])
  (.seq (.reg [⟨some 10, .mv (.t 0), none⟩,
    ⟨some 11, .call 241 [.t 10] [] [(0, 11100)], none⟩,
    ⟨some 7, .mv (.t 11), none⟩] [0, 1, 5, 7] [5, 11100])
  (.seq (.seq (.reg [⟨some 12, .mv (.t 0), none⟩,
    ⟨some 13, .call 242 [.t 12] [] [], none⟩,
    ⟨some 14, .not (.t 13), none⟩,
    ⟨some 15, .mv (.t 14), none⟩,
    ⟨some 16, .mv (.t 1), some (15, false)⟩,
    ⟨some 17, .call 98 [.t 16, .k (.int .i64 0), .k (.int .i64 7)] [] [], some (15, false)⟩,
    ⟨some 18, .not (.t 17), some (15, false)⟩,
    ⟨some 19, .pick (.t 15) (.k (.bool true)) (.t 18), none⟩] [1, 5, 7, 19] [5, 11100])
  (.cond (.t 19) (.seq (.reg [⟨some 20, .mv (.t 7), none⟩,
    ⟨some 6, .mv (.t 20), none⟩] [6] [6, 11100])
  (.ret)) (.skip)))
  (.seq (.seq (.reg [⟨some 8, .mv (.k (.int .i64 0)), none⟩] [1, 5, 7, 8] [5, 11100])
  (.block 0 (.loop spec_SetFlags.l0)))
  (.seq (.reg [⟨some 49, .mv (.t 7), none⟩,
    ⟨some 6, .mv (.t 49), none⟩] [6] [6, 11100])
  (.ret)))))
def spec_SetFlags.m : Fn := { np := 3, body := spec_SetFlags.b, res := [.tmp 6] }
def spec_SetFlags.k (M : Nat → Option Body) : Prop := M 184 = some (.code spec_SetFlags.m) ∧ spec_l01In.k M ∧ spec_l04Copy.k M ∧ spec_FlagsOk.k M ∧ spec_PutReg.k M
def spec_FlagMail.b : C := .seq (.reg [⟨some 4, .box (.t 0), none⟩,
    ⟨some 7, .box (.t 3), none⟩,
    ⟨some 8, .alloc [.int .i64 0, .str ⟨#[]⟩, .int .i64 0, .int .i64 0, .int .i64 0, .nils 4, .nils 1], none⟩,
    ⟨some 9, .mv (.k (.bool false)), none⟩] [1, 2, 4, 7, 8] [4, 7, 8, 11305, 11306])
  (.seq (.reg [⟨some 12, .load true 7 (.t 4), none⟩,
    ⟨some 13, .call 180 [.t 12] [] [(5, 11305), (6, 11306)], none⟩,
    ⟨some 10, .alloc [.int .i64 0, .str ⟨#[]⟩, .int .i64 0, .int .i64 0, .int .i64 0, .nils 4, .nils 1], none⟩,
    ⟨none, .store 7 (.t 10) (.t 13), none⟩] [1, 2, 4, 7, 8, 10] [4, 7, 8, 10, 11305, 11306])
  (.seq (.reg [⟨some 14, .load true 7 (.t 4), none⟩,
    ⟨some 15, .mv (.t 1), none⟩,
    ⟨some 16, .call 91 [.t 14, .t 15] [] [], none⟩,
    ⟨some 11, .mv (.t 16), none⟩] [2, 4, 7, 8, 10, 11] [4, 7, 8, 10, 11305, 11306])
  (.seq (.seq (.reg [⟨some 17, .load true 7 (.t 4), none⟩,
    ⟨some 18, .call 88 [.t 17] [] [], none⟩,
    ⟨some 19, .not (.t 18), none⟩,
    ⟨some 20, .mv (.t 19), none⟩,
    ⟨some 21, .mv (.t 11), some (20, false)⟩,
    ⟨some 22, .bin .lss (.t 21) (.k (.int .i64 0)), some (20, false)⟩,
    ⟨some 23, .pick (.t 20) (.k (.bool true)) (.t 22), none⟩,
    ⟨some 24, .mv (.t 23), none⟩,
    ⟨some 25, .mv (.t 2), some (24, false)⟩,
    ⟨some 26, .call 98 [.t 25, .k (.int .i64 0), .k (.int .i64 7)] [] [], some (24, false)⟩,
    ⟨some 27, .not (.t 26), some (24, false)⟩,
    ⟨some 28, .pick (.t 24) (.k (.bool true)) (.t 27), none⟩,
    ⟨some 29, .mv (.t 28), none⟩,
    ⟨some 30, .load true 2 (.t 7), some (29, false)⟩,
    ⟨some 31, .call 183 [.t 30] [] [], some (29, false)⟩,
    ⟨some 32, .not (.t 31), some (29, false)⟩,
    ⟨some 33, .pick (.t 29) (.k (.bool true)) (.t 32), none⟩] [2, 4, 7, 8, 10, 11, 33] [4, 7, 8, 10, 11305, 11306])
  (.cond (.t 33) (.seq (.reg [⟨some 34, .load true 7 (.t 10), none⟩,
    ⟨none, .store 7 (.t 8) (.t 34), none⟩,
    ⟨some 9, .mv (.k (.bool false)), none⟩] [8, 9] [8, 11305, 11306])
  (.ret)) (.skip)))
  (.seq (.regd [⟨some 35, .faddr 5 (.t 10), none⟩,
    ⟨some 36, .load false 1 (.t 35), none⟩,
    ⟨some 37, .mv (.t 11), none⟩,
    ⟨some 38, .faddr 5 (.t 4), none⟩,
    ⟨some 39, .load false 1 (.t 38), none⟩,
    ⟨some 40, .mv (.t 11), none⟩,
    ⟨some 41, .iaddr 4 (.t 39) (.t 40), none⟩,
    ⟨some 42, .faddr 2 (.t 41), none⟩,
    ⟨some 43, .load false 1 (.t 42), none⟩,
    ⟨some 44, .mv (.t 2), none⟩,
    ⟨some 45, .load true 2 (.t 7), none⟩,
    ⟨some 46, .call 184 [.t 43, .t 44, .t 45] [] [], none⟩,
    ⟨some 47, .iaddr 4 (.t 36) (.t 37), none⟩,
    ⟨some 48, .faddr 2 (.t 47), none⟩,
    ⟨none, .store 1 (.t 48) (.t 46), none⟩] [[], [0], [], [], [3], [], [3, 4, 5], [3, 4, 5, 6], [3, 4, 5, 6, 7], [], [], [3, 4, 5, 6, 7, 8, 9, 10], List.range 12, List.range 13, List.range 14] [8, 10] [8, 10, 11305, 11306])
  (.seq (.reg [⟨some 49, .load true 7 (.t 10), none⟩,
    ⟨none, .store 7 (.t 8) (.t 49), none⟩,
    ⟨some 9, .mv (.k (.bool true)), none⟩] [8, 9] [8, 11305, 11306])
  (.ret))))))
def spec_FlagMail.m : Fn := { np := 4, body := spec_FlagMail.b, res := [.cell 8 true 7, .tmp 9] }
def spec_FlagMail.k (M : Nat → Option Body) : Prop := M 84 = some (.code spec_FlagMail.m) ∧ spec_BoxOk.k M ∧ spec_MailAt.k M ∧ spec_l01In.k M ∧ spec_l06Copy.k M ∧ spec_StampOk.k M ∧ spec_SetFlags.k M
def spec_TakeOut.b : C := .seq (.reg [⟨some 2, .box (.t 0), none⟩,
    ⟨some 4, .alloc [.int .i64 0, .str ⟨#[]⟩, .int .i64 0, .int .i64 0, .int .i64 0, .nils 4, .nils 1], none⟩,
    ⟨some 5, .mv (.k (.bool false)), none⟩] [1, 2, 4] [2, 4, 27, 32, 38, 10905, 10906, 14300])
  (.seq (.reg [⟨some 8, .load true 7 (.t 2), none⟩,
    ⟨some 9, .call 180 [.t 8] [] [(5, 10905), (6, 10906)], none⟩,
    ⟨some 6, .alloc [.int .i64 0, .str ⟨#[]⟩, .int .i64 0, .int .i64 0, .int .i64 0, .nils 4, .nils 1], none⟩,
    ⟨none, .store 7 (.t 6) (.t 9), none⟩] [1, 2, 4, 6] [2, 4, 6, 27, 32, 38, 10905, 10906, 14300])
  (.seq (.reg [⟨some 10, .load true 7 (.t 2), none⟩,
    ⟨some 11, .mv (.t 1), none⟩,
    ⟨some 12, .call 91 [.t 10, .t 11] [] [], none⟩,
    ⟨some 7, .mv (.t 12), none⟩] [1, 2, 4, 6, 7] [2, 4, 6, 27, 32, 38, 10905, 10906, 14300])
  (.seq (.seq (.reg [⟨some 13, .load true 7 (.t 2), none⟩,
    ⟨some 14, .call 88 [.t 13] [] [], none⟩,
    ⟨some 15, .not (.t 14), none⟩,
    ⟨some 16, .mv (.t 15), none⟩,
    ⟨some 17, .mv (.t 7), some (16, false)⟩,
    ⟨some 18, .bin .lss (.t 17) (.k (.int .i64 0)), some (16, false)⟩,
    ⟨some 19, .pick (.t 16) (.k (.bool true)) (.t 18), none⟩,
    ⟨some 20, .mv (.t 19), none⟩,
    ⟨some 21, .faddr 6 (.t 2), some (20, false)⟩,
    ⟨some 22, .load false 1 (.t 21), some (20, false)⟩,
    ⟨some 23, .len (.t 22), some (20, false)⟩,
    ⟨some 24, .bin .geq (.t 23) (.k (.int .i64 40)), some (20, false)⟩,
    ⟨some 25, .pick (.t 20) (.k (.bool true)) (.t 24), none⟩] [1, 2, 4, 6, 7, 25] [2, 4, 6, 27, 32, 38, 10905, 10906, 14300])
  (.cond (.t 25) (.seq (.reg [⟨some 26, .load true 7 (.t 6), none⟩,
    ⟨none, .store 7 (.t 4) (.t 26), none⟩,
    ⟨some 5, .mv (.k (.bool false)), none⟩] [4, 5] [4, 27, 32, 38, 10905, 10906, 14300])
  (.ret)) (.skip)))
  (.seq (.regd [⟨some 27, .bslice 4 0 [.int .i64 0, .int .i64 0, .nils 3, .str ⟨#[]⟩] [], none⟩,
    ⟨some 28, .faddr 5 (.t 6), none⟩,
    ⟨some 29, .load false 1 (.t 28), none⟩,
    ⟨some 30, .mv (.t 7), none⟩,
    ⟨some 31, .slc 4 (.t 29) none (some (.t 30)) none, none⟩,
    ⟨some 32, .app 4 56 (.t 27) (.t 31), none⟩,
    ⟨some 33, .faddr 5 (.t 6), none⟩,
    ⟨some 34, .load false 1 (.t 33), none⟩,
    ⟨some 35, .mv (.t 7), none⟩,
    ⟨some 36, .bin .add (.t 35) (.k (.int .i64 1)), none⟩,
    ⟨some 37, .slc 4 (.t 34) (some (.t 36)) none none, none⟩,
    ⟨some 38, .app 4 56 (.t 32) (.t 37), none⟩,
    ⟨some 39, .faddr 5 (.t 6), none⟩,
    ⟨none, .store 1 (.t 39) (.t 38), none⟩] [[], [], [1], [], [1, 2, 3], List.range 5, [], [6], [], [8], [6, 7, 8, 9], List.range 11, List.range 12, List.range 13] [1, 2, 4, 6] [2, 4, 6, 27, 32, 38, 10905, 10906, 14300])
  (.seq (.reg [⟨some 40, .faddr 6 (.t 2), none⟩,
    ⟨some 41, .load false 1 (.t 40), none⟩,
    ⟨some 42, .mv (.t 1), none⟩,
    ⟨some 43, .call 133 [.t 41, .t 42] [] [(0, 14300)], none⟩,
    ⟨some 44, .faddr 6 (.t 6), none⟩,
    ⟨none, .store 1 (.t 44) (.t 43), none⟩] [4, 6] [4, 6, 27, 32, 38, 10905, 10906, 14300])
  (.seq (.reg [⟨some 45, .load true 7 (.t 6), none⟩,
    ⟨none, .store 7 (.t 4) (.t 45), none⟩,
    ⟨some 5, .mv (.k (.bool true)), none⟩] [4, 5] [4, 27, 32, 38, 10905, 10906, 14300])
  (.ret)))))))
def spec_TakeOut.m : Fn := { np := 2, body := spec_TakeOut.b, res := [.cell 4 true 7, .tmp 5] }
def spec_TakeOut.k (M : Nat → Option Body) : Prop := M 86 = some (.code spec_TakeOut.m) ∧ spec_BoxOk.k M ∧ spec_MailAt.k M ∧ spec_l06Put.k M ∧ spec_l06Copy.k M
end Mx

/-
  Small codes: spec.l01New, spec.l01Byte, spec.l01Below, spec.l01Pick, spec.l05Text, spec.l03Stamp, spec.l06Box, spec.DrawBox, spec.DrawPlaces.
-/
namespace Mx
open Go
def spec_l01New.l0 : C := .seq (.seq (.reg [⟨some 8, .mv (.t 4), none⟩,
    ⟨some 9, .mv (.t 0), none⟩,
    ⟨some 10, .len (.t 9), none⟩,
    ⟨some 11, .bin .lss (.t 8) (.t 10), none⟩,
    ⟨some 12, .mv (.t 11), none⟩,
    ⟨some 13, .mv (.t 4), some (12, true)⟩,
    ⟨some 14, .bin .lss (.t 13) (.k (.int .i64 4000)), some (12, true)⟩,
    ⟨some 15, .pick (.t 12) (.t 14) (.k (.bool false)), none⟩] [0, 3, 4, 15] [])
  (.cond (.t 15) (.skip) (.exit 0)))
  (.seq (.block 1 (.reg [⟨some 18, .mv (.t 3), none⟩,
    ⟨some 19, .bin .mul (.t 18) (.k (.int .i64 131)), none⟩,
    ⟨some 20, .mv (.t 0), none⟩,
    ⟨some 21, .mv (.t 4), none⟩,
    ⟨some 22, .iaddr 1 (.t 20) (.t 21), none⟩,
    ⟨some 23, .load false 1 (.t 22), none⟩,
    ⟨some 24, .i2i .i64 (.t 23), none⟩,
    ⟨some 25, .bin .add (.t 19) (.t 24), none⟩,
    ⟨some 26, .bin .add (.t 25) (.k (.int .i64 7)), none⟩,
    ⟨some 27, .bin .and (.t 26) (.k (.int .i64 1073741823)), none⟩,
    ⟨some 3, .mv (.t 27), none⟩] [0, 3, 4] []))
  (.reg [⟨some 16, .mv (.t 4), none⟩,
    ⟨some 17, .bin .add (.t 16) (.k (.int .i64 1)), none⟩,
    ⟨some 4, .mv (.t 17), none⟩] [0, 3, 4] []))
def spec_l01New.b : C := .seq (.reg [⟨some 2, .np, none⟩] [0] [])
  (.seq (.reg [⟨some 5, .mv (.t 0), none⟩,
    ⟨some 6, .len (.t 5), none⟩,
    ⟨some 7, .bin .add (.k (.int .i64 77201)) (.t 6), none⟩,
    ⟨some 3, .mv (.t 7), none⟩] [0, 3] [])
  (.seq (.seq (.reg [⟨some 4, .mv (.k (.int .i64 0)), none⟩] [0, 3, 4] [])
  (.block 0 (.loop spec_l01New.l0)))
  (.seq (.reg [⟨some 28, .mv (.t 0), none⟩,
    ⟨some 29, .mv (.t 3), none⟩,
    ⟨some 30, .build [.nils 1, .int .i64 0, .int .i64 0] [(0, 1, .t 28), (2, 1, .t 29)], none⟩,
    ⟨some 31, .box (.t 30), none⟩,
    ⟨some 2, .mv (.t 31), none⟩] [2] [31])
  (.ret))))
def spec_l01New.m : Fn := { np := 1, body := spec_l01New.b, res := [.tmp 2] }
def spec_l01New.k (M : Nat → Option Body) : Prop := M 124 = some (.code spec_l01New.m)
def spec_l01Byte.b : C := .seq (.reg [⟨some 2, .mv (.k (.int .i64 0)), none⟩] [0] [0])
  (.seq (.reg [⟨some 4, .mv (.t 0), none⟩,
    ⟨some 5, .mv (.t 0), none⟩,
    ⟨some 6, .nilc (.t 5), none⟩,
    ⟨some 7, .faddr 2 (.t 6), none⟩,
    ⟨some 8, .load false 1 (.t 7), none⟩,
    ⟨some 9, .bin .mul (.t 8) (.k (.int .i64 6364136223846793005)), none⟩,
    ⟨some 10, .bin .add (.t 9) (.k (.int .i64 1442695040888963407)), none⟩,
    ⟨some 11, .nilc (.t 4), none⟩,
    ⟨some 12, .faddr 2 (.t 11), none⟩,
    ⟨none, .store 1 (.t 12) (.t 10), none⟩] [0] [0])
  (.seq (.regd [⟨some 13, .mv (.t 0), none⟩,
    ⟨some 14, .nilc (.t 13), none⟩,
    ⟨some 15, .faddr 2 (.t 14), none⟩,
    ⟨some 16, .load false 1 (.t 15), none⟩,
    ⟨some 17, .bin .shr (.t 16) (.k (.int .u64 33)), none⟩,
    ⟨some 18, .mv (.t 0), none⟩,
    ⟨some 19, .nilc (.t 18), none⟩,
    ⟨some 20, .faddr 2 (.t 19), none⟩,
    ⟨some 21, .load false 1 (.t 20), none⟩,
    ⟨some 22, .bin .shr (.t 21) (.k (.int .u64 45)), none⟩,
    ⟨some 23, .bin .xor (.t 17) (.t 22), none⟩,
    ⟨some 24, .bin .and (.t 23) (.k (.int .i64 255)), none⟩,
    ⟨some 3, .mv (.t 24), none⟩] [[], [0], [0, 1], [0, 1, 2], List.range 4, [], [5], [5, 6], [5, 6, 7], [5, 6, 7, 8], List.range 10, List.range 11, List.range 12] [0, 3] [0])
  (.seq (.seq (.regd [⟨some 25, .mv (.t 0), none⟩,
    ⟨some 26, .nilc (.t 25), none⟩,
    ⟨some 27, .faddr 1 (.t 26), none⟩,
    ⟨some 28, .load false 1 (.t 27), none⟩,
    ⟨some 29, .mv (.t 0), none⟩,
    ⟨some 30, .nilc (.t 29), none⟩,
    ⟨some 31, .faddr 0 (.t 30), none⟩,
    ⟨some 32, .load false 1 (.t 31), none⟩,
    ⟨some 33, .len (.t 32), none⟩,
    ⟨some 34, .bin .lss (.t 28) (.t 33), none⟩] [[], [0], [0, 1], [0, 1, 2], [], [4], [4, 5], [4, 5, 6], [4, 5, 6, 7], List.range 9] [0, 3, 34] [0])
  (.cond (.t 34) (.seq (.regd [⟨some 35, .mv (.t 3), none⟩,
    ⟨some 36, .mv (.t 0), none⟩,
    ⟨some 37, .nilc (.t 36), none⟩,
    ⟨some 38, .faddr 0 (.t 37), none⟩,
    ⟨some 39, .load false 1 (.t 38), none⟩,
    ⟨some 40, .mv (.t 0), none⟩,
    ⟨some 41, .nilc (.t 40), none⟩,
    ⟨some 42, .faddr 1 (.t 41), none⟩,
    ⟨some 43, .load false 1 (.t 42), none⟩,
    ⟨some 44, .iaddr 1 (.t 39) (.t 43), none⟩,
    ⟨some 45, .load false 1 (.t 44), none⟩,
    ⟨some 46, .i2i .i64 (.t 45), none⟩,
    ⟨some 47, .bin .add (.t 35) (.t 46), none⟩,
    ⟨some 48, .bin .and (.t 47) (.k (.int .i64 255)), none⟩,
    ⟨some 3, .mv (.t 48), none⟩] [[], [], [1], [1, 2], [1, 2, 3], [], [5], [5, 6], [5, 6, 7], [1, 2, 3, 4, 5, 6, 7, 8], [1, 2, 3, 4, 5, 6, 7, 8, 9], [1, 2, 3, 4, 5, 6, 7, 8, 9, 10], List.range 12, List.range 13, List.range 14] [0, 3] [0])
  (.reg [⟨some 49, .mv (.t 0), none⟩,
    ⟨some 50, .mv (.t 0), none⟩,
    ⟨some 51, .nilc (.t 50), none⟩,
    ⟨some 52, .faddr 1 (.t 51), none⟩,
    ⟨some 53, .load false 1 (.t 52), none⟩,
    ⟨some 54, .bin .add (.t 53) (.k (.int .i64 1)), none⟩,
    ⟨some 55, .nilc (.t 49), none⟩,
    ⟨some 56, .faddr 1 (.t 55), none⟩,
    ⟨none, .store 1 (.t 56) (.t 54), none⟩] [3] [0])) (.skip)))
  (.seq (.reg [⟨some 57, .mv (.t 3), none⟩,
    ⟨some 2, .mv (.t 57), none⟩] [2] [0])
  (.ret)))))
def spec_l01Byte.m : Fn := { np := 1, body := spec_l01Byte.b, res := [.tmp 2] }
def spec_l01Byte.k (M : Nat → Option Body) : Prop := M 131 = some (.code spec_l01Byte.m)
def spec_l01Below.b : C := .seq (.reg [⟨some 4, .mv (.k (.int .i64 0)), none⟩] [0, 1] [0])
  (.seq (.seq (.reg [⟨some 9, .mv (.t 1), none⟩,
    ⟨some 10, .bin .leq (.t 9) (.k (.int .i64 0)), none⟩] [0, 1, 10] [0])
  (.cond (.t 10) (.seq (.reg [⟨some 4, .mv (.k (.int .i64 0)), none⟩] [4] [0])
  (.ret)) (.skip)))
  (.seq (.seq (.reg [⟨some 11, .mv (.t 1), none⟩,
    ⟨some 12, .bin .leq (.t 11) (.k (.int .i64 256)), none⟩] [0, 1, 12] [0])
  (.cond (.t 12) (.seq (.reg [⟨some 13, .mv (.t 0), none⟩,
    ⟨some 14, .call 131 [.t 13] [0] [], none⟩,
    ⟨some 15, .mv (.t 1), none⟩,
    ⟨some 16, .bin .rem (.t 14) (.t 15), none⟩,
    ⟨some 4, .mv (.t 16), none⟩] [4] [0])
  (.ret)) (.skip)))
  (.seq (.reg [⟨some 17, .mv (.t 0), none⟩,
    ⟨some 18, .call 131 [.t 17] [0] [], none⟩,
    ⟨some 5, .mv (.t 18), none⟩] [0, 1, 5] [0])
  (.seq (.reg [⟨some 19, .mv (.t 0), none⟩,
    ⟨some 20, .call 131 [.t 19] [0] [], none⟩,
    ⟨some 6, .mv (.t 20), none⟩] [0, 1, 5, 6] [0])
  (.seq (.reg [⟨some 21, .mv (.t 0), none⟩,
    ⟨some 22, .call 131 [.t 21] [0] [], none⟩,
    ⟨some 7, .mv (.t 22), none⟩] [0, 1, 5, 6, 7] [0])
  (.seq (.reg [⟨some 23, .mv (.t 0), none⟩,
    ⟨some 24, .call 131 [.t 23] [0] [], none⟩,
    ⟨some 8, .mv (.t 24), none⟩] [1, 5, 6, 7, 8] [0])
  (.seq (.reg [⟨some 25, .mv (.t 5), none⟩,
    ⟨some 26, .bin .mul (.t 25) (.k (.int .i64 16777216)), none⟩,
    ⟨some 27, .mv (.t 6), none⟩,
    ⟨some 28, .bin .mul (.t 27) (.k (.int .i64 65536)), none⟩,
    ⟨some 29, .bin .add (.t 26) (.t 28), none⟩,
    ⟨some 30, .mv (.t 7), none⟩,
    ⟨some 31, .bin .mul (.t 30) (.k (.int .i64 256)), none⟩,
    ⟨some 32, .bin .add (.t 29) (.t 31), none⟩,
    ⟨some 33, .mv (.t 8), none⟩,
    ⟨some 34, .bin .add (.t 32) (.t 33), none⟩,
    ⟨some 35, .mv (.t 1), none⟩,
    ⟨some 36, .bin .rem (.t 34) (.t 35), none⟩,
    ⟨some 4, .mv (.t 36), none⟩] [4] [0])
  (.ret))))))))
def spec_l01Below.m : Fn := { np := 2, body := spec_l01Below.b, res := [.tmp 4] }
def spec_l01Below.k (M : Nat → Option Body) : Prop := M 125 = some (.code spec_l01Below.m) ∧ spec_l01Byte.k M
def spec_l01Pick.b : C := .seq (.reg [⟨some 4, .mv (.k (.str ⟨#[]⟩)), none⟩] [0, 1] [0])
  (.seq (.reg [⟨some 5, .mv (.t 1), none⟩,
    ⟨some 6, .mv (.t 0), none⟩,
    ⟨some 7, .mv (.t 1), none⟩,
    ⟨some 8, .len (.t 7), none⟩,
    ⟨some 9, .call 125 [.t 6, .t 8] [0] [], none⟩,
    ⟨some 10, .iaddr 1 (.t 5) (.t 9), none⟩,
    ⟨some 11, .load false 1 (.t 10), none⟩,
    ⟨some 4, .mv (.t 11), none⟩] [4] [0])
  (.ret))
def spec_l01Pick.m : Fn := { np := 2, body := spec_l01Pick.b, res := [.tmp 4] }
def spec_l01Pick.k (M : Nat → Option Body) : Prop := M 185 = some (.code spec_l01Pick.m) ∧ spec_l01Below.k M
def spec_l05Text.b : C := .seq (.reg [⟨some 2, .mv (.k (.str ⟨#[]⟩)), none⟩] [0] [0])
  (.seq (.reg [⟨some 3, .mv (.t 0), none⟩,
    ⟨some 4, .bslf 1 6 [.str ⟨#[]⟩] [(0, .k (.str ⟨#[104, 101, 108, 108, 111]⟩)), (1, .k (.str ⟨#[104, 105, 10]⟩)), (2, .k (.str ⟨#[]⟩)), (3, .k (.str ⟨#[116, 101, 120, 116, 32, 111, 102, 32, 105, 116]⟩)), (4, .k (.str ⟨#[0, 255]⟩)), (5, .k (.str ⟨#[97, 32, 98]⟩))], none⟩,
    ⟨some 5, .call 185 [.t 3, .t 4] [0] [], none⟩,
    ⟨some 2, .mv (.t 5), none⟩] [2] [0])
  (.ret))
def spec_l05Text.m : Fn := { np := 1, body := spec_l05Text.b, res := [.tmp 2] }
def spec_l05Text.k (M : Nat → Option Body) : Prop := M 174 = some (.code spec_l05Text.m) ∧ spec_l01Pick.k M
def spec_l03Stamp.b : C := .seq (.reg [⟨some 2, .alloc [.int .i64 0, .int .i64 0], none⟩] [0, 2] [0, 2])
  (.seq (.reg [⟨some 3, .mv (.t 0), none⟩,
    ⟨some 4, .call 125 [.t 3, .k (.int .i64 12)] [0] [], none⟩,
    ⟨some 5, .mv (.t 0), none⟩,
    ⟨some 6, .call 125 [.t 5, .k (.int .i64 2)] [0] [], none⟩,
    ⟨some 7, .bin .add (.k (.int .i64 1)) (.t 6), none⟩,
    ⟨some 8, .build [.int .i64 0, .int .i64 0] [(0, 1, .t 4), (1, 1, .t 7)], none⟩,
    ⟨none, .store 2 (.t 2) (.t 8), none⟩] [2] [0, 2])
  (.ret))
def spec_l03Stamp.m : Fn := { np := 1, body := spec_l03Stamp.b, res := [.cell 2 true 2] }
def spec_l03Stamp.k (M : Nat → Option Body) : Prop := M 232 = some (.code spec_l03Stamp.m) ∧ spec_l01Below.k M
def spec_l06Box.l0 : C := .seq (.seq (.reg [⟨some 18, .mv (.t 5), none⟩,
    ⟨some 19, .mv (.t 0), none⟩,
    ⟨some 20, .call 125 [.t 19, .k (.int .i64 12)] [0] [], none⟩,
    ⟨some 21, .bin .lss (.t 18) (.t 20), none⟩] [0, 2, 4, 5, 21] [0, 2, 4, 14905, 14906])
  (.cond (.t 21) (.skip) (.exit 0)))
  (.seq (.block 1 (.seq (.reg [⟨some 24, .mv (.t 0), none⟩,
    ⟨some 25, .call 125 [.t 24, .k (.int .i64 9)] [0] [], none⟩,
    ⟨some 26, .bin .add (.k (.int .i64 10)) (.t 25), none⟩,
    ⟨some 6, .mv (.t 26), none⟩] [0, 2, 4, 5, 6] [0, 2, 4, 14905, 14906])
  (.seq (.reg [⟨some 27, .mv (.t 0), none⟩,
    ⟨some 28, .call 232 [.t 27] [0] [], none⟩,
    ⟨some 7, .alloc [.int .i64 0, .int .i64 0], none⟩,
    ⟨none, .store 2 (.t 7) (.t 28), none⟩] [0, 2, 4, 5, 6, 7] [0, 2, 4, 7, 14905, 14906])
  (.seq (.reg [⟨some 29, .mv (.t 0), none⟩,
    ⟨some 30, .call 125 [.t 29, .k (.int .i64 5)] [0] [], none⟩] [0, 2, 4, 5, 6, 7, 30] [0, 2, 4, 7, 14905, 14906])
  (.block 2 (.seq (.seq (.reg [⟨some 38, .bin .eql (.t 30) (.k (.int .i64 0)), none⟩,
    ⟨some 37, .mv (.t 38), none⟩] [0, 2, 4, 5, 6, 7, 30, 37] [0, 2, 4, 7, 14905, 14906])
  (.cond (.t 37) (.skip) (.seq (.reg [⟨some 39, .bin .eql (.t 30) (.k (.int .i64 1)), none⟩,
    ⟨some 37, .mv (.t 39), none⟩] [0, 2, 4, 5, 6, 7, 30, 37] [0, 2, 4, 7, 14905, 14906])
  (.cond (.t 37) (.skip) (.reg [⟨some 40, .bin .eql (.t 30) (.k (.int .i64 2)), none⟩,
    ⟨some 37, .mv (.t 40), none⟩] [0, 2, 4, 5, 6, 7, 30, 37] [0, 2, 4, 7, 14905, 14906])))))
  (.cond (.t 37) (.shut [14905, 14906] (.regd [⟨some 42, .load true 7 (.t 4), none⟩,
    ⟨some 43, .mv (.t 6), none⟩,
    ⟨some 44, .mv (.t 0), none⟩,
    ⟨some 45, .call 125 [.t 44, .k (.int .i64 8)] [0] [], none⟩,
    ⟨some 46, .mv (.t 0), none⟩,
    ⟨some 47, .call 174 [.t 46] [0] [], none⟩,
    ⟨some 48, .load true 2 (.t 7), none⟩,
    ⟨some 49, .call 81 [.t 42, .t 43, .t 45, .t 47, .t 48] [] [(5, 14905), (6, 14906)], none⟩,
    ⟨some 41, .mv (.t 49), none⟩,
    ⟨some 50, .ext 0 (.t 41), none⟩,
    ⟨some 51, .ext 1 (.t 41), none⟩,
    ⟨none, .store 7 (.t 4) (.t 50), none⟩] [[], [], [], [2], [], [2, 3, 4], [], List.range 7, List.range 8, List.range 9, List.range 9, List.range 10] [0, 2, 4, 5] [0, 2, 4, 14905, 14906])) (.seq (.reg [⟨some 53, .bin .eql (.t 30) (.k (.int .i64 3)), none⟩,
    ⟨some 52, .mv (.t 53), none⟩] [0, 2, 4, 5, 6, 7, 52] [0, 2, 4, 7, 14905, 14906])
  (.cond (.t 52) (.shut [14905, 14906] (.regd [⟨some 55, .load true 7 (.t 4), none⟩,
    ⟨some 56, .mv (.t 6), none⟩,
    ⟨some 57, .mv (.t 0), none⟩,
    ⟨some 58, .call 125 [.t 57, .k (.int .i64 8)] [0] [], none⟩,
    ⟨some 59, .load true 2 (.t 7), none⟩,
    ⟨some 60, .call 84 [.t 55, .t 56, .t 58, .t 59] [] [(5, 14905), (6, 14906)], none⟩,
    ⟨some 54, .mv (.t 60), none⟩,
    ⟨some 61, .ext 0 (.t 54), none⟩,
    ⟨some 62, .ext 1 (.t 54), none⟩,
    ⟨none, .store 7 (.t 4) (.t 61), none⟩] [[], [], [], [2], [], List.range 5, List.range 6, List.range 7, List.range 7, List.range 8] [0, 2, 4, 5] [0, 2, 4, 14905, 14906])) (.shut [14905, 14906] (.reg [⟨some 32, .load true 7 (.t 4), none⟩,
    ⟨some 33, .mv (.t 6), none⟩,
    ⟨some 34, .call 86 [.t 32, .t 33] [] [(5, 14905), (6, 14906)], none⟩,
    ⟨some 31, .mv (.t 34), none⟩,
    ⟨some 35, .ext 0 (.t 31), none⟩,
    ⟨some 36, .ext 1 (.t 31), none⟩,
    ⟨none, .store 7 (.t 4) (.t 35), none⟩] [0, 2, 4, 5] [0, 2, 4, 14905, 14906])))))))))))
  (.reg [⟨some 22, .mv (.t 5), none⟩,
    ⟨some 23, .bin .add (.t 22) (.k (.int .i64 1)), none⟩,
    ⟨some 5, .mv (.t 23), none⟩] [0, 2, 4, 5] [0, 2, 4, 14905, 14906]))
def spec_l06Box.b : C := .seq (.reg [⟨some 2, .alloc [.int .i64 0, .str ⟨#[]⟩, .int .i64 0, .int .i64 0, .int .i64 0, .nils 4, .nils 1], none⟩] [0, 2] [0, 2, 14905, 14906])
  (.seq (.reg [⟨some 8, .mv (.t 0), none⟩,
    ⟨some 9, .call 232 [.t 8] [0] [], none⟩,
    ⟨some 3, .alloc [.int .i64 0, .int .i64 0], none⟩,
    ⟨none, .store 2 (.t 3) (.t 9), none⟩] [0, 2, 3] [0, 2, 3, 14905, 14906])
  (.seq (.regd [⟨some 10, .mv (.t 0), none⟩,
    ⟨some 11, .bslf 1 3 [.str ⟨#[]⟩] [(0, .k (.str ⟨#[105, 110, 98, 111, 120]⟩)), (1, .k (.str ⟨#[119, 111, 114, 107]⟩)), (2, .k (.str ⟨#[111, 108, 100, 57]⟩))], none⟩,
    ⟨some 12, .call 185 [.t 10, .t 11] [0] [], none⟩,
    ⟨some 13, .load true 2 (.t 3), none⟩,
    ⟨some 14, .mv (.t 0), none⟩,
    ⟨some 15, .call 125 [.t 14, .k (.int .i64 4)] [0] [], none⟩,
    ⟨some 16, .bin .add (.k (.int .i64 1)) (.t 15), none⟩,
    ⟨some 17, .build [.int .i64 0, .str ⟨#[]⟩, .int .i64 0, .int .i64 0, .int .i64 0, .nils 4, .nils 1] [(0, 1, .k (.int .i64 7)), (1, 1, .t 12), (2, 2, .t 13), (4, 1, .t 16)], none⟩,
    ⟨some 4, .alloc [.int .i64 0, .str ⟨#[]⟩, .int .i64 0, .int .i64 0, .int .i64 0, .nils 4, .nils 1], none⟩,
    ⟨none, .store 7 (.t 4) (.t 17), none⟩] [[], [], [0, 1], [], [], [0, 1, 2, 4], [0, 1, 2, 4, 5], List.range 7, [], List.range 9] [0, 2, 4] [0, 2, 4, 14905, 14906])
  (.seq (.seq (.reg [⟨some 5, .mv (.k (.int .i64 0)), none⟩] [0, 2, 4, 5] [0, 2, 4, 14905, 14906])
  (.block 0 (.loop spec_l06Box.l0)))
  (.seq (.reg [⟨some 63, .load true 7 (.t 4), none⟩,
    ⟨none, .store 7 (.t 2) (.t 63), none⟩] [2] [0, 2, 14905, 14906])
  (.ret)))))
def spec_l06Box.m : Fn := { np := 1, body := spec_l06Box.b, res := [.cell 2 true 7] }
def spec_l06Box.k (M : Nat → Option Body) : Prop := M 154 = some (.code spec_l06Box.m) ∧ spec_AddMail.k M ∧ spec_FlagMail.k M ∧ spec_TakeOut.k M ∧ spec_l01Below.k M ∧ spec_l05Text.k M ∧ spec_l01Pick.k M ∧ spec_l03Stamp.k M
def spec_DrawBox.b : C := .seq (.reg [⟨some 2, .alloc [.int .i64 0, .str ⟨#[]⟩, .int .i64 0, .int .i64 0, .int .i64 0, .nils 4, .nils 1], none⟩] [0, 2] [2, 10505, 10506])
  (.seq (.reg [⟨some 3, .mv (.t 0), none⟩,
    ⟨some 4, .call 124 [.t 3] [] [(0, 10400)], none⟩,
    ⟨some 5, .call 154 [.t 4] [0] [(5, 10505), (6, 10506)], none⟩,
    ⟨none, .store 7 (.t 2) (.t 5), none⟩] [2] [2, 10505, 10506])
  (.ret))
def spec_DrawBox.m : Fn := { np := 1, body := spec_DrawBox.b, res := [.cell 2 true 7] }
def spec_DrawBox.k (M : Nat → Option Body) : Prop := M 69 = some (.code spec_DrawBox.m) ∧ spec_l01New.k M ∧ spec_l06Box.k M
def spec_DrawPlaces.l0 : C := .seq (.seq (.reg [⟨some 11, .mv (.t 5), none⟩,
    ⟨some 12, .bin .lss (.t 11) (.k (.int .i64 12)), none⟩] [3, 4, 5, 12] [10, 19, 10700])
  (.cond (.t 12) (.skip) (.exit 0)))
  (.seq (.block 1 (.reg [⟨some 15, .mv (.t 4), none⟩,
    ⟨some 16, .mv (.t 3), none⟩,
    ⟨some 17, .call 125 [.t 16, .k (.int .i64 10000)] [0] [], none⟩,
    ⟨some 18, .bslice 1 1 [.int .i64 0] [(0, .t 17)], none⟩,
    ⟨some 19, .app 1 8 (.t 15) (.t 18), none⟩,
    ⟨some 4, .mv (.t 19), none⟩] [3, 4, 5] [10, 19, 10700]))
  (.reg [⟨some 13, .mv (.t 5), none⟩,
    ⟨some 14, .bin .add (.t 13) (.k (.int .i64 1)), none⟩,
    ⟨some 5, .mv (.t 14), none⟩] [3, 4, 5] [10, 19, 10700]))
def spec_DrawPlaces.b : C := .seq (.reg [⟨some 2, .nil 1, none⟩] [0] [])
  (.seq (.reg [⟨some 6, .mv (.t 0), none⟩,
    ⟨some 7, .call 124 [.t 6] [] [(0, 10700)], none⟩,
    ⟨some 3, .mv (.t 7), none⟩] [3] [10700])
  (.seq (.reg [⟨some 8, .mv (.t 3), none⟩,
    ⟨some 9, .call 131 [.t 8] [0] [], none⟩] [3] [10700])
  (.seq (.reg [⟨some 10, .bslice 1 0 [.int .i64 0] [], none⟩,
    ⟨some 4, .mv (.t 10), none⟩] [3, 4] [10, 19, 10700])
  (.seq (.seq (.reg [⟨some 5, .mv (.k (.int .i64 0)), none⟩] [3, 4, 5] [10, 19, 10700])
  (.block 0 (.loop spec_DrawPlaces.l0)))
  (.seq (.reg [⟨some 20, .mv (.t 4), none⟩,
    ⟨some 2, .mv (.t 20), none⟩] [2] [2, 10, 19])
  (.ret))))))
def spec_DrawPlaces.m : Fn := { np := 1, body := spec_DrawPlaces.b, res := [.tmp 2] }
def spec_DrawPlaces.k (M : Nat → Option Body) : Prop := M 40 = some (.code spec_DrawPlaces.m) ∧ spec_l01New.k M ∧ spec_l01Below.k M ∧ spec_l01Byte.k M
end Mx

/-
  Numbers bit by bit.
-/
namespace Mx
open Go
theorem wrap_u8 (x : Int) : IntKind.u8.wrap x = x % 256 := by
  unfold IntKind.wrap; simp [IntKind.bits, IntKind.signed]
theorem wrap_u32 (x : Int) : IntKind.u32.wrap x = x % 4294967296 := by
  unfold IntKind.wrap; simp [IntKind.bits, IntKind.signed]

theorem andI_eq (k : IntKind) (x y : Int) : andI k x y = k.wrap (((x % ((2 ^ k.bits : Nat) : Int)).toNat &&& (y % ((2 ^ k.bits : Nat) : Int)).toNat : Nat) : Int) := by
  unfold andI; rw [BitVec.toNat_and, BitVec.toNat_ofInt, BitVec.toNat_ofInt]
theorem orI_eq (k : IntKind) (x y : Int) : orI k x y = k.wrap (((x % ((2 ^ k.bits : Nat) : Int)).toNat ||| (y % ((2 ^ k.bits : Nat) : Int)).toNat : Nat) : Int) := by
  unfold orI; rw [BitVec.toNat_or, BitVec.toNat_ofInt, BitVec.toNat_ofInt]
theorem and_i64 (n m : Nat) (hn : n < 9223372036854775808) (hm : m < 9223372036854775808) : andI .i64 n m = ((n &&& m : Nat) : Int) := by
  rw [andI_eq]
  have e : ∀ k : Nat, k < 9223372036854775808 → ((k : Int) % ((2 ^ IntKind.i64.bits : Nat) : Int)).toNat = k := by
    intro k hk
    show ((k : Int) % 18446744073709551616).toNat = k
    omega
  rw [e n hn, e m hm]
  have : n &&& m ≤ n := Nat.and_le_left
  exact wrap_i64 (by omega) (by omega)
theorem or_i64 (n m : Nat) (hn : n < 9223372036854775808) (hm : m < 9223372036854775808) : orI .i64 n m = ((n ||| m : Nat) : Int) := by
  rw [orI_eq]
  have e : ∀ k : Nat, k < 9223372036854775808 → ((k : Int) % ((2 ^ IntKind.i64.bits : Nat) : Int)).toNat = k := by
    intro k hk
    show ((k : Int) % 18446744073709551616).toNat = k
    omega
  rw [e n hn, e m hm]
  have : n ||| m < 2 ^ 63 := Nat.or_lt_two_pow (by omega) (by omega)
  exact wrap_i64 (by omega) (by omega)
theorem and_u8 (n m : Nat) (hn : n < 256) (hm : m < 256) : andI .u8 n m = ((n &&& m : Nat) : Int) := by
  rw [andI_eq]
  have e : ∀ k : Nat, k < 256 → ((k : Int) % ((2 ^ IntKind.u8.bits : Nat) : Int)).toNat = k := by
    intro k hk
    show ((k : Int) % 256).toNat = k
    omega
  rw [e n hn, e m hm, wrap_u8]
  have : n &&& m ≤ n := Nat.and_le_left
  omega
theorem and_127 (n : Nat) : n &&& 127 = n % 128 := Nat.and_two_pow_sub_one_eq_mod n 7
theorem or_128 (n : Nat) (h : n < 128) : n ||| 128 = n + 128 := by
  have := Nat.two_pow_add_eq_or_of_lt (i := 7) (b := n) h 1
  rw [Nat.or_comm]
  have e : 2 ^ 7 * 1 = 128 := by decide
  rw [e] at this
  omega
/-- digits above stand for themselves -/
theorem or_high (n d k : Nat) (h : n < 128 ^ k) : n ||| d * 128 ^ k = n + d * 128 ^ k := by
  have e : (128 : Nat) ^ k = 2 ^ (7 * k) := by rw [show (128 : Nat) = 2 ^ 7 by decide, ← Nat.pow_mul]
  rw [e] at h ⊢
  have := Nat.two_pow_add_eq_or_of_lt (i := 7 * k) (b := n) h d
  rw [Nat.or_comm, Nat.mul_comm d, ← this, Nat.add_comm]
theorem brow_nil : brow [] = [] := rfl
theorem brow1 (b : UInt8) : [[T.int .u8 (b.toNat : Int)]] = brow [b] := rfl
theorem ofNat_toNat (n : Nat) : ((UInt8.ofNat n).toNat : Int) = (n : Int) % 256 := by simp
attribute [simp] brow_nil
end Mx

/-
  What is drawn: the cursor.
-/
namespace Mx
open Go
variable {M : Nat → Option Body}
abbrev curD (R : List (List T)) (i : Nat) (h : Int) : Nat × Ob := (0, ⟨0, 3, true, true, [[.sl false 1 R, I i, I h]]⟩)
def Bytes (R : List (List T)) : Prop := R.length ≤ 1048576 ∧ ∀ (i : Nat) (r : List T), R[i]? = some r → ∃ n : Int, r = [.int .u8 n]
theorem and_255 (x : Int) : ∃ n : Nat, n < 256 ∧ andI .i64 x 255 = (n : Int) := by
  rw [andI_eq]
  refine ⟨(x % ((2 ^ IntKind.i64.bits : Nat) : Int)).toNat &&& 255, ?_, ?_⟩
  · have : (x % ((2 ^ IntKind.i64.bits : Nat) : Int)).toNat &&& 255 ≤ 255 := Nat.and_le_right
    omega
  · have h : (x % ((2 ^ IntKind.i64.bits : Nat) : Int)).toNat &&& 255 ≤ 255 := Nat.and_le_right
    have e : ((255 : Int) % ((2 ^ IntKind.i64.bits : Nat) : Int)).toNat = 255 := by decide
    rw [e]
    exact wrap_i64 (by omega) (by omega)
theorem spec_l01Byte.says (h : spec_l01Byte.k M) {R : List (List T)} (hR : Bytes R) (i : Nat) (q : Int) (hi : i ≤ R.length) :
    ∃ (x i' : Nat) (q' : Int), x < 256 ∧ i' ≤ R.length ∧ run M 131 [.c (.ptr 0 0 0 0)] [curD R i q] = some (.c (I x), [curD R i' q']) := by
  obtain ⟨hl, hb⟩ := hR
  obtain ⟨q1, hq1⟩ : ∃ q1, IntKind.i64.wrap (IntKind.i64.wrap (q * 6364136223846793005) + 1442695040888963407) = q1 := ⟨_, rfl⟩
  obtain ⟨x, hx, e1⟩ := and_255 (xorI .i64 (q1.fdiv ((2 : Int) ^ min 33 IntKind.i64.bits)) (q1.fdiv ((2 : Int) ^ min 45 IntKind.i64.bits)))
  by_cases hlt : i < R.length
  · obtain ⟨n, hn⟩ := hb i R[i] (List.getElem?_eq_getElem hlt)
    obtain ⟨y, hy, e2⟩ := and_255 (IntKind.i64.wrap (x + IntKind.i64.wrap n))
    refine ⟨y, i + 1, q1, hy, by omega, ?_⟩
    refine run_code (b := spec_l01Byte.m) h ⟨0, ?_⟩
    have e3 : IntKind.i64.wrap ((i : Int) + 1) = (i : Int) + 1 := wrap_i64 (by omega) (by omega)
    simp (maxSteps := 1000000) [exB, spec_l01Byte.m, spec_l01Byte.b, List.range_succ, bs_get, setAt, hq1, e1, e2, e3, hlt, hn]
  · refine ⟨x, i, q1, hx, hi, ?_⟩
    refine run_code (b := spec_l01Byte.m) h ⟨0, ?_⟩
    simp (maxSteps := 1000000) [exB, spec_l01Byte.m, spec_l01Byte.b, List.range_succ, bs_get, setAt, hq1, e1, hlt]
theorem and_i64n (x : Int) (m : Nat) (hm : m < 9223372036854775808) : ∃ n : Nat, n ≤ m ∧ andI .i64 x m = (n : Int) := by
  rw [andI_eq]
  have h : (x % ((2 ^ IntKind.i64.bits : Nat) : Int)).toNat &&& ((m : Int) % ((2 ^ IntKind.i64.bits : Nat) : Int)).toNat ≤ ((m : Int) % ((2 ^ IntKind.i64.bits : Nat) : Int)).toNat := Nat.and_le_right
  have e : ((m : Int) % ((2 ^ IntKind.i64.bits : Nat) : Int)).toNat = m := by
    show ((m : Int) % 18446744073709551616).toNat = m
    omega
  rw [e] at h ⊢
  exact ⟨_, h, wrap_i64 (by omega) (by omega)⟩
theorem tmod_small (x n : Nat) (hn : 0 < n) : ∃ y : Nat, y < n ∧ ((x : Int).tmod (n : Int)) = (y : Int) := ⟨x % n, Nat.mod_lt _ hn, by rw [Int.tmod_eq_emod_of_nonneg (by omega)]; rfl⟩
/-- a number below n (at most 256, or a drawn one of four bytes) -/
theorem spec_l01Below.says (h : spec_l01Below.k M) {R : List (List T)} (hR : Bytes R) (i : Nat) (q : Int) (hi : i ≤ R.length) (n : Nat) (hn : 0 < n) (hn2 : n ≤ 1000000000) :
    ∃ (x i' : Nat) (q' : Int), x < n ∧ i' ≤ R.length ∧ run M 125 [.c (.ptr 0 0 0 0), .c (I n)] [curD R i q] = some (.c (I x), [curD R i' q']) := by
  obtain ⟨h0, k1⟩ := h
  have n0 : ¬ (n : Int) ≤ 0 := by omega
  have n1 : ¬ n = 0 := by omega
  obtain ⟨x1, i1, q1, hx1, hi1, h1⟩ := spec_l01Byte.says k1 hR i q hi
  by_cases hs : n ≤ 256
  · have hs2 : (n : Int) ≤ 256 := by omega
    obtain ⟨y, hy, e⟩ := tmod_small x1 n hn
    refine ⟨y, i1, q1, hy, hi1, ?_⟩
    refine run_code (b := spec_l01Below.m) h0 ⟨0, ?_⟩
    simp (maxSteps := 1000000) [exB, spec_l01Below.m, spec_l01Below.b, List.range_succ, bs_get, setAt, h1, n0, n1, hs, hs2, e]
  · have hs2 : ¬ (n : Int) ≤ 256 := by omega
    obtain ⟨x2, i2, q2, hx2, hi2, h2⟩ := spec_l01Byte.says k1 hR i1 q1 hi1
    obtain ⟨x3, i3, q3, hx3, hi3, h3⟩ := spec_l01Byte.says k1 hR i2 q2 hi2
    obtain ⟨x4, i4, q4, hx4, hi4, h4⟩ := spec_l01Byte.says k1 hR i3 q3 hi3
    have w1 : IntKind.i64.wrap ((x1 : Int) * 16777216) = ((x1 * 16777216 : Nat) : Int) := wrap_i64 (by omega) (by omega)
    have w2 : IntKind.i64.wrap ((x2 : Int) * 65536) = ((x2 * 65536 : Nat) : Int) := wrap_i64 (by omega) (by omega)
    have w3 : IntKind.i64.wrap ((x3 : Int) * 256) = ((x3 * 256 : Nat) : Int) := wrap_i64 (by omega) (by omega)
    obtain ⟨y1, hy1⟩ : ∃ y1, x1 * 16777216 = y1 := ⟨_, rfl⟩
    obtain ⟨y2, hy2⟩ : ∃ y2, x2 * 65536 = y2 := ⟨_, rfl⟩
    obtain ⟨y3, hy3⟩ : ∃ y3, x3 * 256 = y3 := ⟨_, rfl⟩
    rw [hy1] at w1; rw [hy2] at w2; rw [hy3] at w3
    have w4 : IntKind.i64.wrap ((y1 : Int) + y2) = ((y1 + y2 : Nat) : Int) := wrap_i64 (by omega) (by omega)
    obtain ⟨z1, hz1⟩ : ∃ z1, y1 + y2 = z1 := ⟨_, rfl⟩
    rw [hz1] at w4
    have w5 : IntKind.i64.wrap ((z1 : Int) + y3) = ((z1 + y3 : Nat) : Int) := wrap_i64 (by omega) (by omega)
    obtain ⟨z2, hz2⟩ : ∃ z2, z1 + y3 = z2 := ⟨_, rfl⟩
    rw [hz2] at w5
    have w6 : IntKind.i64.wrap ((z2 : Int) + x4) = ((z2 + x4 : Nat) : Int) := wrap_i64 (by omega) (by omega)
    obtain ⟨z3, hz3⟩ : ∃ z3, z2 + x4 = z3 := ⟨_, rfl⟩
    rw [hz3] at w6
    obtain ⟨y, hy, e⟩ := tmod_small z3 n hn
    refine ⟨y, i4, q4, hy, hi4, ?_⟩
    refine run_code (b := spec_l01Below.m) h0 ⟨0, ?_⟩
    simp (maxSteps := 1000000) [exB, spec_l01Below.m, spec_l01Below.b, List.range_succ, bs_get, setAt, h1, h2, h3, h4, w1, w2, w3, w4, w5, w6, n0, n1, hs, hs2, e]
theorem spec_l01Pick.says (h : spec_l01Pick.k M) {R : List (List T)} (hR : Bytes R) (i : Nat) (q : Int) (hi : i ≤ R.length) (ss : List (List UInt8)) (h0 : 0 < ss.length) (hn : ss.length ≤ 256) :
    ∃ (s : List UInt8) (i' : Nat) (q' : Int), s ∈ ss ∧ i' ≤ R.length ∧ run M 185 [.c (.ptr 0 0 0 0), .c (.sl false 1 (ss.map fun s => [S s]))] [curD R i q] = some (.c (S s), [curD R i' q']) := by
  obtain ⟨hm, k1⟩ := h
  obtain ⟨x, i1, q1, hx, hi1, h1⟩ := spec_l01Below.says k1 hR i q hi ss.length h0 (by omega)
  refine ⟨ss[x], i1, q1, List.getElem_mem hx, hi1, ?_⟩
  refine run_code (b := spec_l01Pick.m) hm ⟨0, ?_⟩
  simp (maxSteps := 1000000) [exB, spec_l01Pick.m, spec_l01Pick.b, List.range_succ, bs_get, setAt, h1, hx]
theorem spec_l03Stamp.says (h : spec_l03Stamp.k M) {R : List (List T)} (hR : Bytes R) (i : Nat) (q : Int) (hi : i ≤ R.length) :
    ∃ (t w i' : Nat) (q' : Int), t < 12 ∧ 1 ≤ w ∧ w ≤ 2 ∧ i' ≤ R.length ∧ run M 232 [.c (.ptr 0 0 0 0)] [curD R i q] = some (.a [I t, I w], [curD R i' q']) := by
  obtain ⟨hm, k1⟩ := h
  obtain ⟨x, i1, q1, hx, hi1, h1⟩ := spec_l01Below.says k1 hR i q hi 12 (by omega) (by omega)
  obtain ⟨y, i2, q2, hy, hi2, h2⟩ := spec_l01Below.says k1 hR i1 q1 hi1 2 (by omega) (by omega)
  simp only [Int.cast_ofNat_Int] at h1 h2
  have e : IntKind.i64.wrap (1 + (y : Int)) = ((1 + y : Nat) : Int) := wrap_i64 (by omega) (by omega)
  refine ⟨x, 1 + y, i2, q2, hx, by omega, by omega, hi2, ?_⟩
  refine run_code (b := spec_l03Stamp.m) hm ⟨0, ?_⟩
  simp (maxSteps := 1000000) [exB, spec_l03Stamp.m, spec_l03Stamp.b, List.range_succ, bs_get, setAt, h1, h2, e]
def texts5 : List (List UInt8) := [[104, 101, 108, 108, 111], [104, 105, 10], [], [116, 101, 120, 116, 32, 111, 102, 32, 105, 116], [0, 255], [97, 32, 98]]
theorem spec_l05Text.says (h : spec_l05Text.k M) {R : List (List T)} (hR : Bytes R) (i : Nat) (q : Int) (hi : i ≤ R.length) :
    ∃ (s : List UInt8) (i' : Nat) (q' : Int), s.length ≤ 60 ∧ i' ≤ R.length ∧ run M 174 [.c (.ptr 0 0 0 0)] [curD R i q] = some (.c (S s), [curD R i' q']) := by
  obtain ⟨hm, k1⟩ := h
  obtain ⟨s, i1, q1, hs, hi1, h1⟩ := spec_l01Pick.says k1 hR i q hi texts5 (by decide) (by decide)
  refine ⟨s, i1, q1, ?_, hi1, ?_⟩
  · have : ∀ s ∈ texts5, s.length ≤ 60 := by decide
    exact this s hs
  · refine run_code (b := spec_l05Text.m) hm ⟨0, ?_⟩
    simp only [texts5, List.map_cons, List.map_nil, bs] at h1 ⊢
    simp (maxSteps := 1000000) [exB, spec_l05Text.m, spec_l05Text.b, List.range_succ, bs_get, setAt, h1]
end Mx

/-
  Numbers of two lists, ascending, each once: by sorting, and by putting one after another.
-/
namespace Mx
open Go
def gput (l : List Int) (x : Int) : List Int := l.filter (fun y => decide (y < x)) ++ [x] ++ l.filter (fun y => decide (x < y))
def gadd (l : List Int) (x : Int) : List Int := if x ∈ l then l else gput l x
def joinGone (a b : List Int) : List Int := (a ++ b).foldl gadd []
abbrev Asc (l : List Int) : Prop := l.Pairwise (· < ·)
theorem asc_ext : ∀ {a b : List Int}, Asc a → Asc b → (∀ x, x ∈ a ↔ x ∈ b) → a = b
  | [], [], _, _, _ => rfl
  | [], y :: b, _, _, h => absurd ((h y).2 (List.mem_cons_self ..)) (by simp)
  | x :: a, [], _, _, h => absurd ((h x).1 (List.mem_cons_self ..)) (by simp)
  | x :: a, y :: b, ha, hb, h => by
    obtain ⟨ha1, ha2⟩ := List.pairwise_cons.1 ha
    obtain ⟨hb1, hb2⟩ := List.pairwise_cons.1 hb
    have e : x = y := by
      rcases List.mem_cons.1 ((h x).1 (List.mem_cons_self ..)) with q | q
      · exact q
      · rcases List.mem_cons.1 ((h y).2 (List.mem_cons_self ..)) with q' | q'
        · exact q'.symm
        · have := ha1 y q'; have := hb1 x q; omega
    subst e
    congr 1
    refine asc_ext ha2 hb2 fun z => ⟨fun hz => ?_, fun hz => ?_⟩
    · rcases List.mem_cons.1 ((h z).1 (List.mem_cons_of_mem _ hz)) with q | q
      · have := ha1 z hz; omega
      · exact q
    · rcases List.mem_cons.1 ((h z).2 (List.mem_cons_of_mem _ hz)) with q | q
      · have := hb1 z hz; omega
      · exact q
theorem gput_mem {l : List Int} {x z : Int} : z ∈ gput l x ↔ z = x ∨ z ∈ l := by
  simp only [gput, List.mem_append, List.mem_filter, decide_eq_true_eq, List.mem_singleton]
  constructor
  · rintro ((⟨h, _⟩ | h) | ⟨h, _⟩)
    · exact .inr h
    · exact .inl h
    · exact .inr h
  · rintro (h | h)
    · exact .inl (.inr h)
    · by_cases c : z < x
      · exact .inl (.inl ⟨h, c⟩)
      · by_cases c2 : z = x
        · exact .inl (.inr c2)
        · exact .inr ⟨h, by omega⟩
theorem gput_asc {l : List Int} {x : Int} (h : Asc l) : Asc (gput l x) := by
  simp only [gput, Asc, List.pairwise_append, List.pairwise_singleton, List.mem_filter, decide_eq_true_eq, List.mem_singleton, List.mem_append]
  refine ⟨⟨h.filter _, trivial, ?_⟩, h.filter _, ?_⟩
  · rintro a ⟨_, ha⟩ b rfl; exact ha
  · rintro a (⟨_, ha⟩ | rfl) b ⟨_, hb⟩ <;> omega
theorem gadd_mem {l : List Int} {x z : Int} : z ∈ gadd l x ↔ z = x ∨ z ∈ l := by
  unfold gadd; split
  · rename_i h
    constructor
    · exact .inr
    · rintro (rfl | q)
      · exact h
      · exact q
  · exact gput_mem
theorem gadd_asc {l : List Int} {x : Int} (h : Asc l) : Asc (gadd l x) := by
  unfold gadd; split
  · exact h
  · exact gput_asc h
theorem gfold_mem : ∀ (l acc : List Int) (z : Int), z ∈ l.foldl gadd acc ↔ z ∈ l ∨ z ∈ acc
  | [], acc, z => by simp
  | x :: l, acc, z => by
    simp only [List.foldl_cons, gfold_mem l, gadd_mem, List.mem_cons]
    constructor
    · rintro (h | h | h)
      · exact .inl (.inr h)
      · exact .inl (.inl h)
      · exact .inr h
    · rintro ((h | h) | h)
      · exact .inr (.inl h)
      · exact .inl h
      · exact .inr (.inr h)
theorem gfold_asc : ∀ (l acc : List Int), Asc acc → Asc (l.foldl gadd acc)
  | [], acc, h => h
  | x :: l, acc, h => gfold_asc l _ (gadd_asc h)
theorem joinGone_asc (a b : List Int) : Asc (joinGone a b) := gfold_asc _ _ List.Pairwise.nil
theorem joinGone_mem (a b : List Int) (z : Int) : z ∈ joinGone a b ↔ z ∈ a ∨ z ∈ b := by unfold joinGone; rw [gfold_mem]; simp
theorem gadd_len (l : List Int) (x : Int) : (gadd l x).length ≤ l.length + 1 := by
  unfold gadd; split
  · omega
  · simp only [gput, List.length_append, List.length_singleton]
    have : ∀ l : List Int, (l.filter fun y => decide (y < x)).length + (l.filter fun y => decide (x < y)).length ≤ l.length := by
      intro l
      induction l with
      | nil => simp
      | cons y l ih =>
        simp only [List.filter_cons]
        by_cases h1 : y < x
        · have h2 : ¬ x < y := by omega
          simp [h1, h2]; omega
        · by_cases h2 : x < y
          · simp [h1, h2]; omega
          · simp [h1, h2]; omega
    have := this l
    omega
theorem gfold_len : ∀ (l acc : List Int), (l.foldl gadd acc).length ≤ l.length + acc.length
  | [], acc => by simp
  | x :: l, acc => by
    have h1 := gfold_len l (gadd acc x)
    have h2 := gadd_len acc x
    simp only [List.foldl_cons, List.length_cons]; omega
/-- runs of equal numbers become one -/
def dedup : List Int → List Int
  | [] => []
  | x :: l => x :: (go x l)
where go : Int → List Int → List Int
  | _, [] => []
  | p, x :: l => if x = p then go x l else x :: go x l
theorem dedup_go_mem : ∀ (l : List Int) (p z : Int), z ∈ dedup.go p l → z ∈ l
  | [], p, z, h => by simp [dedup.go] at h
  | x :: l, p, z, h => by
    simp only [dedup.go] at h
    split at h
    · exact List.mem_cons_of_mem _ (dedup_go_mem l x z h)
    · rcases List.mem_cons.1 h with rfl | h
      · exact List.mem_cons_self ..
      · exact List.mem_cons_of_mem _ (dedup_go_mem l x z h)
theorem mem_dedup_go : ∀ (l : List Int) (p z : Int), z ∈ l → z = p ∨ z ∈ dedup.go p l
  | [], p, z, h => by simp at h
  | x :: l, p, z, h => by
    simp only [dedup.go]
    split
    · rename_i e
      subst e
      rcases List.mem_cons.1 h with q | q
      · exact .inl q
      · exact mem_dedup_go l x z q
    · rcases List.mem_cons.1 h with q | q
      · exact .inr (by rw [q]; exact List.mem_cons_self ..)
      · rcases mem_dedup_go l x z q with q | q
        · exact .inr (by rw [q]; exact List.mem_cons_self ..)
        · exact .inr (List.mem_cons_of_mem _ q)
theorem dedup_go_asc : ∀ (l : List Int) (p : Int), l.Pairwise (· ≤ ·) → (∀ z ∈ l, p ≤ z) → Asc (dedup.go p l) ∧ ∀ z ∈ dedup.go p l, p < z
  | [], p, _, _ => by simp [dedup.go]
  | x :: l, p, h, hp => by
    obtain ⟨h1, h2⟩ := List.pairwise_cons.1 h
    have hx := hp x (List.mem_cons_self ..)
    obtain ⟨k1, k2⟩ := dedup_go_asc l x h2 h1
    simp only [dedup.go]
    split
    · rename_i e; exact ⟨k1, fun z hz => by have := k2 z hz; omega⟩
    · rename_i e
      refine ⟨List.pairwise_cons.2 ⟨k2, k1⟩, fun z hz => ?_⟩
      rcases List.mem_cons.1 hz with rfl | hz
      · omega
      · have := k2 z hz; omega
theorem dedup_asc {l : List Int} (h : l.Pairwise (· ≤ ·)) : Asc (dedup l) := by
  cases l with
  | nil => exact List.Pairwise.nil
  | cons x l =>
    obtain ⟨h1, h2⟩ := List.pairwise_cons.1 h
    obtain ⟨k1, k2⟩ := dedup_go_asc l x h2 h1
    exact List.pairwise_cons.2 ⟨k2, k1⟩
theorem dedup_mem {l : List Int} {z : Int} : z ∈ dedup l ↔ z ∈ l := by
  cases l with
  | nil => simp [dedup]
  | cons x l =>
    simp only [dedup, List.mem_cons]
    constructor
    · rintro (h | h)
      · exact .inl h
      · exact .inr (dedup_go_mem l x z h)
    · rintro (h | h)
      · exact .inl h
      · exact mem_dedup_go l x z h
/-- the kit's word for it -/
theorem compact_dedup (l : List Int) : Lib.compact l = dedup l := by
  have key : ∀ (d : Array Int) (m : Nat) (l : List Int) (p : Int), 0 < m → m + l.length = d.size → d.toList.drop m = l → d[m - 1]! = p → ((List.range' m l.length).filter (Lib.keeps d)).map (d[·]!) = dedup.go p l := by
    intro d m l
    induction l generalizing m with
    | nil => intro p _ _ _ _; rfl
    | cons x l ih =>
      intro p hm hl hd hp
      have hlt : m < d.size := by simp at hl; omega
      have hx : d[m]! = x := by
        rw [getElem!_pos d m hlt]
        have := congrArg (·[0]?) hd
        simpa [hlt] using this
      have ih' := ih (m + 1) x (by omega) (by simp at hl; omega) (by rw [← List.tail_drop, hd]; rfl) (by simpa using hx)
      simp only [List.length_cons, List.range'_succ, List.filter_cons, dedup.go]
      by_cases e : x = p
      · have hk : Lib.keeps d m = false := Lib.keeps_neg hm (by rw [hx, hp, e])
        rw [if_pos e, hk]; simpa using ih'
      · have hk : Lib.keeps d m = true := Lib.keeps_pos (by rw [hx, hp]; exact e)
        rw [if_neg e, hk]; simp only [if_true, List.map_cons, hx, ih']
  cases l with
  | nil => rfl
  | cons x l =>
    have hk : Lib.keeps (x :: l).toArray 0 = true := Lib.keeps_lt_one _ 0 (by omega)
    unfold Lib.compact Lib.compactUpTo
    rw [List.range_eq_range', List.length_cons, List.range'_succ, List.filter_cons, hk]
    simp only [if_true, List.map_cons, dedup]
    congr 1
    exact key (x :: l).toArray 1 l x (by omega) (by simp; omega) (by simp) (by simp)
theorem compact_len (l : List Int) : (Lib.compact l).length ≤ l.length := by
  unfold Lib.compact Lib.compactUpTo
  rw [List.length_map]
  refine Nat.le_trans (List.length_filter_le _ _) ?_
  simp
theorem joinGone_sort (a b : List Int) : Lib.compact (sortI (a ++ b)) = joinGone a b := by
  rw [compact_dedup]
  have hs : (sortI (a ++ b)).Pairwise (· ≤ ·) := by
    have := List.pairwise_mergeSort (le := fun x y : Int => decide (x ≤ y)) (fun a b c h1 h2 => by simp only [decide_eq_true_eq] at *; omega) (fun a b => by simp only [Bool.or_eq_true, decide_eq_true_eq]; omega) (a ++ b)
    exact this.imp fun h => by simpa using h
  refine asc_ext (dedup_asc hs) (joinGone_asc a b) fun z => ?_
  rw [dedup_mem, joinGone_mem]
  simp [sortI]
end Mx

/-
  What copyInts answers.
-/
namespace Mx
open Go
variable {M : Nat → Option Body}
theorem impl_copyInts.says (h : impl_copyInts.k M) (l : List Int) (hx : l.length ≤ 1048576) : run M 134 [.c (ints l)] [] = some (.c (.sl true 1 (irow l)), []) := by
  have h1 : l.length ≤ 4294967296 := by omega
  refine run_code (b := impl_copyInts.m) h ⟨0, ?_⟩
  simp [exB, impl_copyInts.m, impl_copyInts.b, List.range_succ, List.take_of_length_le, h1]
end Mx

/-
  What within answers.
-/
namespace Mx
open Go
variable {M : Nat → Option Body}
theorem impl_within.says (h : impl_within.k M) (n a b : Int) : run M 101 [.c (I n), .c (I a), .c (I b)] [] = some (.c (.bool (decide (a ≤ n) && decide (n ≤ b))), []) := by
  refine run_code (b := impl_within.m) h ⟨0, ?_⟩
  by_cases h : a ≤ n
  · have h' : n ≥ a := h
    simp [exB, impl_within.m, impl_within.b, List.range_succ, h]
  · have h' : ¬ n ≥ a := h
    simp [exB, impl_within.m, impl_within.b, List.range_succ, h]
theorem spec_l01In.says (h : spec_l01In.k M) (n a b : Int) : run M 98 [.c (I n), .c (I a), .c (I b)] [] = some (.c (.bool (decide (a ≤ n) && decide (n ≤ b))), []) := by
  refine run_code (b := spec_l01In.m) h ⟨0, ?_⟩
  by_cases h : a ≤ n
  · have h' : n ≥ a := h
    simp [exB, spec_l01In.m, spec_l01In.b, List.range_succ, h]
  · have h' : ¬ n ≥ a := h
    simp [exB, spec_l01In.m, spec_l01In.b, List.range_succ, h]
end Mx

/-
  Numbers in bytes: VarText, ReadVar; short texts.
-/
namespace Mx
open Go
variable {M : Nat → Option Body}
/-- the bytes ahead of the last, and the last -/
def varP (n : Nat) : List UInt8 × Nat := if n > 127 then let r := varP (n / 128); (UInt8.ofNat (n % 128 + 128) :: r.1, r.2) else ([], n)
termination_by n
decreasing_by omega
theorem varP_low {n : Nat} (h : ¬ n > 127) : varP n = ([], n) := by rw [varP, if_neg h]
theorem varP_high {n : Nat} (h : n > 127) : varP n = (UInt8.ofNat (n % 128 + 128) :: (varP (n / 128)).1, (varP (n / 128)).2) := by rw [varP, if_pos h]
def varT (n : Nat) : List UInt8 := (varP n).1 ++ [UInt8.ofNat (varP n).2]
theorem varP_len : ∀ (k n : Nat), n < 128 ^ k → (varP n).1.length ≤ k := by
  intro k
  induction k with
  | zero => intro n h; have : n = 0 := by simpa using h
            subst this; rw [varP_low (by omega)]; simp
  | succ k ih =>
    intro n h
    by_cases hc : n > 127
    · rw [varP_high hc]
      have := ih (n / 128) (by rw [Nat.pow_succ] at h; omega)
      simp; omega
    · rw [varP_low hc]; simp
theorem varT_len {n : Nat} (h : n ≤ 9223372036854775807) : (varT n).length ≤ 10 := by
  have := varP_len 9 n (by omega)
  simp [varT]; omega

def spV (a b c : Nat) (s : Nat × List UInt8) (x : Nat × Nat) : St := { t := [(0, .c (I s.1)), (b, .c (.row a x.1 0 s.2.length))], o := [(a, ⟨x.1, 1, true, false, brow s.2⟩)], n := x.2 }
def vInv (s : Nat × List UInt8) : Prop := s.1 ≤ 9223372036854775807 ∧ ∃ k, s.1 < 128 ^ k ∧ s.2.length + k ≤ 20
theorem vInv_step {n : Nat} {acc : List UInt8} (h : vInv (n, acc)) (hc : n > 127) (b : UInt8) : vInv (n / 128, acc ++ [b]) := by
  obtain ⟨h1, k, h2, h3⟩ := h
  simp only at h1 h2 h3
  cases k with
  | zero => simp at h2; omega
  | succ k => exact ⟨by simp only; omega, k, by simp only; rw [Nat.pow_succ] at h2; omega, by simp; omega⟩
theorem spec_l01Var.says (h : spec_l01Var.k M) (n : Nat) (hn : n ≤ 9223372036854775807) : run M 99 [.c (I n)] [] = some (.c (S (varT n)), []) := by
  refine run_code (b := spec_l01Var.m) h ⟨n + 1, ?_⟩
  obtain ⟨g, hr⟩ := loop_all (f := exC (run M) (n + 1) spec_l01Var.l0) (spV 4 3 6) vInv (fun s => s.1) (fun s => (s.2 ++ (varP s.1).1, (varP s.1).2))
    (fun q (m : Nat × Nat) => (.exit 0, { t := [(0, .c (I q.2)), (3, .c (.row 4 m.1 0 q.1.length)), (6, .c (.bool false))], o := [(4, ⟨m.1, 1, true, false, brow q.1⟩)], n := m.2 }))
    (by
      rintro ⟨i, acc⟩ ⟨v, x⟩ hi
      by_cases hc : i > 127
      · left
        have hb := hi.1
        obtain ⟨k, hk1, hk2⟩ := hi.2
        simp only at hb hk1 hk2
        have e1 : IntKind.i64.wrap ((i : Int).tmod 128 + 128) = ((i % 128 + 128 : Nat) : Int) := by
          rw [Int.tmod_eq_emod_of_nonneg (by omega), wrap_i64 (by omega) (by omega)]; omega
        have e2 : IntKind.i64.wrap ((i : Int) / 128) = (i : Int) / 128 := wrap_i64 (by omega) (by omega)
        have e3 : IntKind.u8.wrap ((i % 128 + 128 : Nat) : Int) = ((UInt8.ofNat (i % 128 + 128)).toNat : Int) := by rw [ofNat_toNat, wrap_u8]
        have hc' : (127 : Int) < i := by omega
        have e4 : acc.length + 1 ≤ 4294967296 := by omega
        generalize hb : UInt8.ofNat (i % 128 + 128) = b at e3
        obtain ⟨y, hy⟩ : ∃ y, exC (run M) (n + 1) spec_l01Var.l0 (spV 4 3 6 (i, acc) (v, x)) = some (.normal, spV 4 3 6 (i / 128, acc ++ [b]) y) := by
          simp only [Prod.exists]
          simp only [spV, spec_l01Var.l0]
          simp only [Int.natCast_add, Int.natCast_emod, Int.cast_ofNat_Int] at e1 e3
          simp [hc', e1, e2, e3, e4, brow1, List.take_of_length_le]
        refine ⟨(i / 128, acc ++ [b]), y, hy, vInv_step hi hc b, by simp only; omega, ?_⟩
        simp only [varP_high hc, hb, List.append_assoc, List.cons_append, List.nil_append]
      · right
        have hc' : ¬ (127 : Int) < i := by omega
        refine ⟨(v, x + 32), ?_, by simp⟩
        simp only [varP_low hc, List.append_nil]
        simp [spV, spec_l01Var.l0, hc'])
    (n + 1) (n, []) ⟨hn, 9, by simp only; omega, by simp⟩ (by simp)
  have hl := varP_len 9 n (by omega)
  have e3 : IntKind.u8.wrap ((varP n).2 : Int) = ((UInt8.ofNat (varP n).2).toNat : Int) := by rw [ofNat_toNat, wrap_u8]
  have e4 : (varP n).1.length + 1 ≤ 4294967296 := by omega
  simp only [List.nil_append] at hr
  simp [spV, -List.nil_append] at hr
  generalize hb : UInt8.ofNat (varP n).2 = b at e3
  have hv : varT n = (varP n).1 ++ [b] := by rw [← hb]; rfl
  rw [hv]
  simp [exB, spec_l01Var.m, spec_l01Var.b, List.range_succ, hr, e3, e4, brow1, List.take_of_length_le]

theorem or_and (n : Nat) (h : n < 9223372036854775808) : orI .i64 (andI .i64 n 127) 128 = ((n % 128 + 128 : Nat) : Int) := by
  have e1 := and_i64 n 127 h (by omega)
  have e2 := or_i64 (n % 128) 128 (by omega) (by omega)
  rw [and_127] at e1
  rw [or_128 _ (by omega)] at e2
  rw [show (127 : Int) = ((127 : Nat) : Int) from rfl, e1]
  exact e2
theorem impl_VarText.says (h : impl_VarText.k M) (n : Nat) (hn : n ≤ 9223372036854775807) : run M 230 [.c (I n)] [] = some (.tup [.c (S (if n ≤ 1000000000 then varT n else [])), .c (.bool (decide (n ≤ 1000000000)))], []) := by
  have hw := impl_within.says h.2 n 0 1000000000
  refine run_code (b := impl_VarText.m) h.1 ⟨n + 1, ?_⟩
  by_cases hm : n ≤ 1000000000
  rotate_left
  · have hm' : ¬ (n : Int) ≤ 1000000000 := by omega
    simp [hm'] at hw
    simp [exB, impl_VarText.m, impl_VarText.b, List.range_succ, hw, hm]
  have hm' : (n : Int) ≤ 1000000000 := by omega
  simp [hm'] at hw
  obtain ⟨g, hr⟩ := loop_all (f := exC (run M) (n + 1) impl_VarText.l0) (spV 8 4 10) vInv (fun s => s.1) (fun s => (s.2 ++ (varP s.1).1, (varP s.1).2))
    (fun q (m : Nat × Nat) => (.exit 0, { t := [(0, .c (I q.2)), (4, .c (.row 8 m.1 0 q.1.length)), (10, .c (.bool false))], o := [(8, ⟨m.1, 1, true, false, brow q.1⟩)], n := m.2 }))
    (by
      rintro ⟨i, acc⟩ ⟨v, x⟩ hi
      by_cases hc : i > 127
      · left
        have hb := hi.1
        obtain ⟨k, hk1, hk2⟩ := hi.2
        simp only at hb hk1 hk2
        have e1 := or_and i (by omega)
        have e2 : (i : Int).fdiv 128 = ((i / 128 : Nat) : Int) := by
          rw [Int.fdiv_eq_ediv_of_nonneg _ (by omega)]; omega
        have e3 : IntKind.u8.wrap ((i % 128 + 128 : Nat) : Int) = ((UInt8.ofNat (i % 128 + 128)).toNat : Int) := by rw [ofNat_toNat, wrap_u8]
        have hc' : (127 : Int) < i := by omega
        have e4 : acc.length + 1 ≤ 4294967296 := by omega
        generalize hb : UInt8.ofNat (i % 128 + 128) = b at e3
        obtain ⟨y, hy⟩ : ∃ y, exC (run M) (n + 1) impl_VarText.l0 (spV 8 4 10 (i, acc) (v, x)) = some (.normal, spV 8 4 10 (i / 128, acc ++ [b]) y) := by
          simp only [Prod.exists]
          simp only [spV, impl_VarText.l0]
          simp only [Int.natCast_add, Int.natCast_emod, Int.cast_ofNat_Int] at e1 e3
          simp [hc', e1, e2, e3, e4, brow1, List.take_of_length_le, IntKind.bits]
        refine ⟨(i / 128, acc ++ [b]), y, hy, vInv_step hi hc b, by simp only; omega, ?_⟩
        simp only [varP_high hc, hb, List.append_assoc, List.cons_append, List.nil_append]
      · right
        have hc' : ¬ (127 : Int) < i := by omega
        refine ⟨(v, x + 32), ?_, by simp⟩
        simp only [varP_low hc, List.append_nil]
        simp [spV, impl_VarText.l0, hc'])
    (n + 1) (n, []) ⟨hn, 9, by simp only; omega, by simp⟩ (by simp)
  have hl := varP_len 9 n (by omega)
  have e3 : IntKind.u8.wrap ((varP n).2 : Int) = ((UInt8.ofNat (varP n).2).toNat : Int) := by rw [ofNat_toNat, wrap_u8]
  have e4 : (varP n).1.length + 1 ≤ 4294967296 := by omega
  simp only [List.nil_append] at hr
  simp [spV, -List.nil_append] at hr
  generalize hb : UInt8.ofNat (varP n).2 = b at e3
  have hv : varT n = (varP n).1 ++ [b] := by rw [← hb]; rfl
  rw [hv]
  simp [exB, impl_VarText.m, impl_VarText.b, List.range_succ, hr, hw, hm, e3, e4, brow1, List.take_of_length_le]
/-- its length, and it -/
def shortT (l : List UInt8) : List UInt8 := varT l.length ++ l
theorem impl_ShortText.says (h : impl_ShortText.k M) (l : List UInt8) (hl : l.length ≤ 4611686018427387904) : run M 205 [.c (S l)] [] = some (.tup [.c (S (if 20000 < l.length then [] else shortT l)), .c (.bool (!decide (20000 < l.length)))], []) := by
  have h1 := impl_VarText.says h.2 l.length (by omega)
  refine run_code (b := impl_ShortText.m) h.1 ⟨0, ?_⟩
  by_cases c : 20000 < l.length
  · have c' : 20000 < (l.length : Int) := by omega
    simp [exB, impl_ShortText.m, impl_ShortText.b, List.range_succ, c, c']
  · have c' : ¬ 20000 < (l.length : Int) := by omega
    have c2 : l.length ≤ 1000000000 := by omega
    have hv := varT_len (n := l.length) (by omega)
    simp only [c2, if_true, decide_true] at h1
    simp (disch := (first | omega | (simp; done) | (simp; omega))) [exB, impl_ShortText.m, impl_ShortText.b, List.range_succ, c, c', h1, shortT, str_add]
theorem impl_short.says (h : impl_short.k M) (l : List UInt8) (hl : l.length ≤ 20000) : run M 102 [.c (S l)] [] = some (.c (S (shortT l)), []) := by
  have h1 := impl_ShortText.says h.2 l (by omega)
  have c : ¬ 20000 < l.length := by omega
  refine run_code (b := impl_short.m) h.1 ⟨0, ?_⟩
  simp only [c, if_false] at h1
  simp [exB, impl_short.m, impl_short.b, List.range_succ, h1]
end Mx

/-
  The laws' plumbing at any type: what slices weigh.
-/
namespace Mx
open Go
variable {M : Nat → Option Body}
def szLb : C := .seq (.reg [⟨some 4, .mv (.k (.int .i64 0)), none⟩] [0, 1] [])
  (.seq (.reg [⟨some 5, .mv (.t 1), none⟩,
    ⟨some 6, .mv (.t 0), none⟩,
    ⟨some 7, .len (.t 6), none⟩,
    ⟨some 8, .bin .sub (.t 5) (.t 7), none⟩,
    ⟨some 1, .mv (.t 8), none⟩] [1] [])
  (.seq (.seq (.reg [⟨some 9, .mv (.t 1), none⟩,
    ⟨some 10, .bin .lss (.t 9) (.k (.int .i64 0)), none⟩] [1, 10] [])
  (.cond (.t 10) (.seq (.reg [⟨some 4, .mv (.k (.int .i64 (-1))), none⟩] [4] [])
  (.ret)) (.skip)))
  (.seq (.reg [⟨some 11, .mv (.t 1), none⟩,
    ⟨some 4, .mv (.t 11), none⟩] [4] [])
  (.ret))))
def szLm : Fn := { np := 2, body := szLb, res := [.tmp 4] }
theorem szL_says {F n : Nat} (h : M F = some (.code szLm)) {rows : List (List T)} (hl : rows.length ≤ 9223372036854775807) (k : Int) (hk : 0 ≤ k) (hk' : k ≤ 9223372036854775807) :
    run M F [.c (.sl false n rows), .c (I k)] [] = some (.c (I (if k < rows.length then -1 else k - rows.length)), []) := by
  refine run_code (b := szLm) h ⟨0, ?_⟩
  have e5 : IntKind.i64.wrap (k - (rows.length : Int)) = k - (rows.length : Int) := wrap_i64 (by omega) (by omega)
  by_cases hc : k < rows.length
  · have h1 : k - (rows.length : Int) < 0 := by omega
    simp [exB, szLm, szLb, List.range_succ, e5, h1, hc]
  · have h1 : ¬ k - (rows.length : Int) < 0 := by omega
    simp [exB, szLm, szLb, List.range_succ, e5, h1, hc]

theorem call_sz {n : Nat} {o : List (Nat × Ob)} {f : Nat} {r : List T} {k m : Int} (hr : r.all closedT = true) (h : run M f [.a r, .c (I k)] [] = some (.c (I m), [])) :
    doCall (run M) n o f [.a r, .c (I k)] [] [] = some (.c (I m), []) := by
  obtain ⟨h1, h2, _⟩ := im_closedL (o := o) hr
  simp [doCall, args, lendsC, V.im, V.wr, h1, h2, h, lentBack, back, backV, backT]
def szSl (n f : Nat) : C := .seq (.seq (.reg [⟨some 12, .mv (.t 5), none⟩,
    ⟨some 13, .mv (.t 0), none⟩,
    ⟨some 14, .len (.t 13), none⟩,
    ⟨some 15, .bin .lss (.t 12) (.t 14), none⟩] [0, 1, 5, 15] [])
  (.cond (.t 15) (.skip) (.exit 0)))
  (.seq (.block 1 (.seq (.reg [⟨some 18, .mv (.t 0), none⟩,
    ⟨some 19, .mv (.t 5), none⟩,
    ⟨some 20, .iaddr n (.t 18) (.t 19), none⟩,
    ⟨some 21, .load true n (.t 20), none⟩,
    ⟨some 22, .mv (.t 1), none⟩,
    ⟨some 23, .call f [.t 21, .t 22] [] [], none⟩,
    ⟨some 1, .mv (.t 23), none⟩] [0, 1, 5] [])
  (.seq (.reg [⟨some 24, .mv (.t 1), none⟩,
    ⟨some 25, .bin .lss (.t 24) (.k (.int .i64 0)), none⟩] [0, 1, 5, 25] [])
  (.cond (.t 25) (.seq (.reg [⟨some 4, .mv (.k (.int .i64 (-1))), none⟩] [4] [])
  (.ret)) (.skip)))))
  (.reg [⟨some 16, .mv (.t 5), none⟩,
    ⟨some 17, .bin .add (.t 16) (.k (.int .i64 1)), none⟩,
    ⟨some 5, .mv (.t 17), none⟩] [0, 1, 5] []))
def szSb (n f : Nat) : C := .seq (.reg [⟨some 4, .mv (.k (.int .i64 0)), none⟩] [0, 1] [])
  (.seq (.reg [⟨some 6, .mv (.t 1), none⟩,
    ⟨some 7, .mv (.t 0), none⟩,
    ⟨some 8, .len (.t 7), none⟩,
    ⟨some 9, .bin .sub (.t 6) (.t 8), none⟩,
    ⟨some 1, .mv (.t 9), none⟩] [0, 1] [])
  (.seq (.seq (.reg [⟨some 10, .mv (.t 1), none⟩,
    ⟨some 11, .bin .lss (.t 10) (.k (.int .i64 0)), none⟩] [0, 1, 11] [])
  (.cond (.t 11) (.seq (.reg [⟨some 4, .mv (.k (.int .i64 (-1))), none⟩] [4] [])
  (.ret)) (.skip)))
  (.seq (.seq (.reg [⟨some 5, .mv (.k (.int .i64 0)), none⟩] [0, 1, 5] [])
  (.block 0 (.loop (szSl n f))))
  (.seq (.reg [⟨some 26, .mv (.t 1), none⟩,
    ⟨some 4, .mv (.t 26), none⟩] [4] [])
  (.ret)))))
def szSm (n f : Nat) : Fn := { np := 2, body := szSb n f, res := [.tmp 4] }
def szSst (n : Nat) (rows : List (List T)) (s : Nat × Nat) (x : Nat) : St := { t := [(0, .c (.sl false n rows)), (1, .c (I s.2)), (5, .c (I s.1))], o := [], n := x }
/-- what is left of k behind these weights -/
def leftS (k : Nat) : List Nat → Option Nat
  | [] => some k
  | w :: ws => if k < w then none else leftS (k - w) ws
theorem leftS_eq : ∀ (ws : List Nat) (k : Nat), leftS k ws = if k < ws.sum then none else some (k - ws.sum)
  | [], k => by simp [leftS]
  | w :: ws, k => by
    have hs : (w :: ws).sum = w + ws.sum := List.sum_cons
    rw [leftS, leftS_eq ws]
    by_cases h : k < w
    · rw [if_pos h, if_pos (by rw [hs]; omega)]
    · rw [if_neg h]
      by_cases h2 : k - w < ws.sum
      · rw [if_pos h2, if_pos (by rw [hs]; omega)]
      · rw [if_neg h2, if_neg (by rw [hs]; omega)]; congr 1; rw [hs]; omega
def szFin (n : Nat) (rows : List (List T)) (q : Option Nat) (m : Nat) : Out × St := match q with
  | none => (.ret, { t := [(4, .c (I (-1)))], o := [], n := m })
  | some k => (.exit 0, { t := [(0, .c (.sl false n rows)), (1, .c (I k)), (5, .c (I rows.length)), (15, .c (.bool false))], o := [], n := m })
theorem szS_says {F n f : Nat} (h : M F = some (.code (szSm n f))) {rows : List (List T)} (hl : rows.length ≤ 9223372036854775807) (wt : List T → Nat)
    (he : ∀ r ∈ rows, r.length = n ∧ r.all closedT = true ∧ ∀ k : Nat, k ≤ 1048576 → run M f [.a r, .c (I k)] [] = some (.c (I (if k < wt r then -1 else (k : Int) - wt r)), [])) (k : Nat) (hk : k ≤ 1048576) :
    run M F [.c (.sl false n rows), .c (I k)] [] = some (.c (I (if k < rows.length + (rows.map wt).sum then -1 else (k : Int) - (rows.length + (rows.map wt).sum : Nat))), []) := by
  refine run_code (b := szSm n f) h ⟨rows.length + 1, ?_⟩
  have e0 : IntKind.i64.wrap ((k : Int) - (rows.length : Int)) = (k : Int) - (rows.length : Int) := wrap_i64 (by omega) (by omega)
  by_cases hc : k < rows.length
  · have h1 : (k : Int) - (rows.length : Int) < 0 := by omega
    have h2 : k < rows.length + (rows.map wt).sum := by omega
    rw [if_pos h2]
    simp [exB, szSm, szSb, List.range_succ, e0, h1]
  have h1 : ¬ (k : Int) - (rows.length : Int) < 0 := by omega
  obtain ⟨g, hr⟩ := loop_all (f := exC (run M) (rows.length + 1) (szSl n f)) (szSst n rows) (fun s => s.1 ≤ rows.length ∧ s.2 ≤ 1048576) (fun s => rows.length - s.1) (fun s => leftS s.2 ((rows.drop s.1).map wt)) (szFin n rows)
    (by
      rintro ⟨i, q⟩ x ⟨p1, p2⟩
      simp only at p1 p2
      by_cases hlt : i < rows.length
      · have e5 : IntKind.i64.wrap ((i : Int) + 1) = (i : Int) + 1 := wrap_i64 (by omega) (by omega)
        obtain ⟨k1, k2, k3⟩ := he rows[i] (List.getElem_mem hlt)
        have hcall := fun nn => call_sz (n := nn) (o := []) k2 (k3 q p2)
        have h6 : (List.take n rows[i]) = rows[i] := List.take_of_length_le (by omega)
        have hd : leftS q ((rows.drop i).map wt) = if q < wt rows[i] then none else leftS (q - wt rows[i]) ((rows.drop (i + 1)).map wt) := by
          rw [List.drop_eq_getElem_cons hlt, List.map_cons, leftS]
        simp only [hd]
        by_cases c : q < wt rows[i]
        · right
          have c' : (q : Int) < wt rows[i] := by omega
          simp only [if_pos c] at hcall
          rw [if_pos c]
          obtain ⟨y, hy⟩ : ∃ y, exC (run M) (rows.length + 1) (szSl n f) (szSst n rows (i, q) x) = some (szFin n rows none y) := by
            simp [szSst, szSl, szFin, hlt, k1, hcall, h6, -doCall]
          exact ⟨y, hy, by simp [szFin]⟩
        · left
          simp only [if_neg c] at hcall
          rw [if_neg c]
          have c2 : ¬ (q : Int) - wt rows[i] < 0 := by omega
          have c3 : (q : Int) - wt rows[i] = ((q - wt rows[i] : Nat) : Int) := by omega
          rw [c3] at hcall c2
          obtain ⟨y, hy⟩ : ∃ y, exC (run M) (rows.length + 1) (szSl n f) (szSst n rows (i, q) x) = some (.normal, szSst n rows (i + 1, q - wt rows[i]) y) := by
            simp [szSst, szSl, hlt, e5, k1, hcall, h6, c2, -doCall]
          exact ⟨(i + 1, q - wt rows[i]), y, hy, ⟨hlt, by simp only; omega⟩, by simp only; omega, rfl⟩
      · have : i = rows.length := by omega
        subst this
        right
        exact ⟨x + 64, by simp [szSst, szSl, szFin, leftS], by simp [szFin, leftS]⟩)
    (rows.length + 1) (0, k - rows.length) ⟨Nat.zero_le _, by simp only; omega⟩ (by simp)
  simp only [List.drop_zero, leftS_eq] at hr
  have h3 : (k : Int) - (rows.length : Int) = ((k - rows.length : Nat) : Int) := by omega
  rw [h3] at e0 h1
  have e0' : IntKind.i64.wrap ((k : Int) - (rows.length : Int)) = ((k - rows.length : Nat) : Int) := by rw [h3]; exact e0
  by_cases c : k < rows.length + (rows.map wt).sum
  · rw [if_pos (show k - rows.length < (rows.map wt).sum by omega)] at hr
    rw [if_pos c]
    simp [szSst, szFin] at hr
    simp [exB, szSm, szSb, List.range_succ, e0', hr, h1]
  · rw [if_neg (show ¬ k - rows.length < (rows.map wt).sum by omega)] at hr
    rw [if_neg c]
    simp [szSst, szFin] at hr
    have h4 : ((k - rows.length - (rows.map wt).sum : Nat) : Int) = (k : Int) - (rows.length + (rows.map wt).sum : Nat) := by omega
    simp [exB, szSm, szSb, List.range_succ, e0', hr, h1]
    omega
end Mx

/-
  Mails and boxes: as trees; what is laid over, weighed, held against.
-/
namespace Mx
open Go
variable {M : Nat → Option Body}
structure Reg where
  val : Int
  time : Int
  who : Int
structure Mail where
  gid : Int
  uid : Int
  flags : List Reg
  text : List UInt8
structure Box where
  gid : Int
  name : List UInt8
  time : Int
  who : Int
  next : Int
  mails : List Mail
  gone : List Int
abbrev encReg (r : Reg) : List T := [I r.val, I r.time, I r.who]
abbrev regs (l : List Reg) : T := .sl false 3 (l.map encReg)
abbrev encMail (m : Mail) : List T := [I m.gid, I m.uid, regs m.flags, S m.text]
abbrev mails (l : List Mail) : T := .sl false 4 (l.map encMail)
abbrev encBox (b : Box) : List T := [I b.gid, S b.name, I b.time, I b.who, I b.next, mails b.mails, ints b.gone]
/-- as their own -/
abbrev encMailO (m : Mail) : List T := [I m.gid, I m.uid, .sl true 3 (m.flags.map encReg), S m.text]
abbrev encBoxO (b : Box) : List T := [I b.gid, S b.name, I b.time, I b.who, I b.next, .sl true 4 (b.mails.map encMail), .sl true 1 (irow b.gone)]

/-! ## types -/
abbrev ctReg : List Ct := [.int .i64, .int .i64, .int .i64]
abbrev ctMail : List Ct := [.int .i64, .int .i64, .sl ctReg, .str]
abbrev ctBox : List Ct := [.int .i64, .str, .int .i64, .int .i64, .int .i64, .sl ctMail, .sl [.int .i64]]
theorem has_list {α : Type} {row : List Ct} (enc : α → List T) (Q : α → Prop) (hx : ∀ r, HasL row r → ∃ x, r = enc x ∧ Q x) {u : T} (h : Has (.sl row) u) :
    ∃ l : List α, u = .sl false row.length (l.map enc) ∧ l.length ≤ maxLen ∧ ∀ x ∈ l, Q x := by
  cases h with | sl _ rows hl h1 h2 =>
  have : ∀ rows : List (List T), (∀ r ∈ rows, HasL row r) → ∃ l : List α, rows = l.map enc ∧ ∀ x ∈ l, Q x := by
    intro rows
    induction rows with
    | nil => intro _; exact ⟨[], rfl, fun x h => by cases h⟩
    | cons r rs ih =>
      intro hr
      obtain ⟨l, rfl, hq⟩ := ih fun r h => hr r (List.mem_cons_of_mem _ h)
      obtain ⟨x, rfl, hqx⟩ := hx r (hr r (List.mem_cons_self ..))
      exact ⟨x :: l, rfl, fun y hy => by
        rcases List.mem_cons.1 hy with rfl | hy
        · exact hqx
        · exact hq y hy⟩
  obtain ⟨l, rfl, hq⟩ := this rows fun r hr => by
    obtain ⟨i, hi⟩ := List.getElem?_of_mem hr
    exact ⟨h1 i r hi, fun j c t e1 e2 => h2 i j r c t hi e1 e2⟩
  exact ⟨l, rfl, by simpa using hl, hq⟩
theorem has_int {k : IntKind} {u : T} (h : Has (.int k) u) : ∃ n, u = .int k n := by cases h; exact ⟨_, rfl⟩
theorem has_str {u : T} (h : Has .str u) : ∃ l : List UInt8, u = S l ∧ l.length ≤ maxLen := by
  cases h with | str s hs =>
  obtain ⟨l, rfl⟩ := of_bytes s
  exact ⟨l, rfl, by simpa using hs⟩
theorem has_reg {r : List T} (h : HasL ctReg r) : ∃ x : Reg, r = encReg x ∧ True := by
  match r, h with
  | [a, b, c], h =>
    obtain ⟨x, rfl⟩ := has_int (h.2 0 _ a rfl rfl)
    obtain ⟨y, rfl⟩ := has_int (h.2 1 _ b rfl rfl)
    obtain ⟨z, rfl⟩ := has_int (h.2 2 _ c rfl rfl)
    exact ⟨⟨x, y, z⟩, rfl, trivial⟩
def MailFits (m : Mail) : Prop := m.flags.length ≤ maxLen ∧ m.text.length ≤ maxLen
theorem has_mail {r : List T} (h : HasL ctMail r) : ∃ x : Mail, r = encMail x ∧ MailFits x := by
  match r, h with
  | [a, b, c, d], h =>
    obtain ⟨x, rfl⟩ := has_int (h.2 0 _ a rfl rfl)
    obtain ⟨y, rfl⟩ := has_int (h.2 1 _ b rfl rfl)
    obtain ⟨l, rfl, hl, _⟩ := has_list encReg (fun _ => True) (fun r hr => has_reg hr) (h.2 2 _ c rfl rfl)
    obtain ⟨t, rfl, ht⟩ := has_str (h.2 3 _ d rfl rfl)
    exact ⟨⟨x, y, l, t⟩, rfl, hl, ht⟩
def BoxFits (b : Box) : Prop := b.name.length ≤ maxLen ∧ b.mails.length ≤ maxLen ∧ b.gone.length ≤ maxLen ∧ ∀ m ∈ b.mails, MailFits m
theorem has_box {r : List T} (h : HasL ctBox r) : ∃ x : Box, r = encBox x ∧ BoxFits x := by
  match r, h with
  | [a, b, c, d, e, f, g], h =>
    obtain ⟨x1, rfl⟩ := has_int (h.2 0 _ a rfl rfl)
    obtain ⟨x2, rfl, h2⟩ := has_str (h.2 1 _ b rfl rfl)
    obtain ⟨x3, rfl⟩ := has_int (h.2 2 _ c rfl rfl)
    obtain ⟨x4, rfl⟩ := has_int (h.2 3 _ d rfl rfl)
    obtain ⟨x5, rfl⟩ := has_int (h.2 4 _ e rfl rfl)
    obtain ⟨x6, rfl, h6, q6⟩ := has_list encMail MailFits (fun r hr => has_mail hr) (h.2 5 _ f rfl rfl)
    obtain ⟨x7, rfl, h7, _⟩ := has_list (fun n : Int => [I n]) (fun _ => True) (fun r hr => by
      match r, hr with
      | [a], hr => obtain ⟨n, rfl⟩ := has_int (hr.2 0 _ a rfl rfl); exact ⟨n, rfl, trivial⟩) (h.2 6 _ g rfl rfl)
    exact ⟨⟨x1, x2, x3, x4, x5, x6, x7⟩, rfl, h2, h6, h7, q6⟩

/-! ## weights -/
def wMail (m : Mail) : Nat := m.flags.length + m.text.length
def wMails (l : List Mail) : Nat := l.length + (l.map wMail).sum
def wBox (b : Box) : Nat := b.name.length + wMails b.mails + b.gone.length
theorem le_sum {α : Type} (f : α → Nat) : ∀ (l : List α) (x : α), x ∈ l → f x ≤ (l.map f).sum
  | y :: l, x, h => by
    have hs : ((y :: l).map f).sum = f y + (l.map f).sum := List.sum_cons
    rcases List.mem_cons.1 h with rfl | h
    · omega
    · have := le_sum f l x h; omega
theorem wMail_le {l : List Mail} {m : Mail} (h : m ∈ l) : wMail m ≤ wMails l := by
  have := le_sum wMail l m h
  unfold wMails; omega

theorem laws_szRegS.says (h : laws_szRegS.k M) (l : List Reg) (hl : l.length ≤ maxLen) (k : Nat) (hk : k ≤ 1048576) : run M 250 [.c (regs l), .c (I k)] [] = some (.c (I (if k < l.length then -1 else (k : Int) - l.length)), []) := by
  have hm : maxLen = 9223372036854775807 := rfl
  have := szL_says (M := M) (F := 250) (n := 3) h (rows := l.map encReg) (by simp; omega) k (by omega) (by omega)
  simpa using this
theorem laws_szMail.says (h : laws_szMail.k M) (m : Mail) (hm : MailFits m) (k : Nat) (hk : k ≤ 1048576) : run M 208 [.a (encMail m), .c (I k)] [] = some (.c (I (if k < wMail m then -1 else (k : Int) - wMail m)), []) := by
  have hx : maxLen = 9223372036854775807 := rfl
  obtain ⟨f1, f2⟩ := hm
  have h1 := laws_szRegS.says h.2 m.flags f1 k hk
  refine run_code (b := laws_szMail.m) h.1 ⟨0, ?_⟩
  unfold wMail
  by_cases c1 : k < m.flags.length
  · rw [if_pos c1] at h1
    rw [if_pos (show k < m.flags.length + m.text.length by omega)]
    simp [exB, laws_szMail.m, laws_szMail.b, List.range_succ, h1]
  · rw [if_neg c1] at h1
    have e1 : ¬ (k : Int) - m.flags.length < 0 := by omega
    have e2 : IntKind.i64.wrap ((k : Int) - m.flags.length - m.text.length) = (k : Int) - m.flags.length - m.text.length := wrap_i64 (by omega) (by omega)
    by_cases c2 : k < m.flags.length + m.text.length
    · have e3 : (k : Int) - m.flags.length - m.text.length < 0 := by omega
      rw [if_pos c2]
      simp [exB, laws_szMail.m, laws_szMail.b, List.range_succ, h1, e1, e2, e3]
    · have e3 : ¬ (k : Int) - m.flags.length - m.text.length < 0 := by omega
      rw [if_neg c2]
      have e4 : (k : Int) - (m.flags.length + m.text.length : Nat) = (k : Int) - m.flags.length - m.text.length := by omega
      rw [e4]
      simp [exB, laws_szMail.m, laws_szMail.b, List.range_succ, h1, e1, e2, e3]
theorem closed_mail (m : Mail) : (encMail m).all closedT = true := rfl
theorem closed_reg (m : Reg) : (encReg m).all closedT = true := rfl
/-- what a row of a mail weighs -/
def wRow : List T → Nat
  | [_, _, .sl _ _ rows, .str s] => rows.length + s.size
  | _ => 0
theorem wRow_mail (m : Mail) : wRow (encMail m) = wMail m := by simp [wRow, wMail]
theorem laws_szMailS.says (h : laws_szMailS.k M) (l : List Mail) (hl : l.length ≤ maxLen) (hm : ∀ m ∈ l, MailFits m) (k : Nat) (hk : k ≤ 1048576) :
    run M 107 [.c (mails l), .c (I k)] [] = some (.c (I (if k < wMails l then -1 else (k : Int) - wMails l)), []) := by
  have hx : maxLen = 9223372036854775807 := rfl
  have := szS_says (M := M) (F := 107) (n := 4) (f := 208) h.1 (rows := l.map encMail) (by simp; omega) wRow (by
    intro r hr
    obtain ⟨m, hmm, rfl⟩ := List.mem_map.1 hr
    refine ⟨rfl, rfl, fun k hk => ?_⟩
    rw [wRow_mail]
    exact laws_szMail.says h.2 m (hm m hmm) k hk) k hk
  have e : ((l.map encMail).map wRow).sum = (l.map wMail).sum := by
    rw [List.map_map]; congr 1; apply List.map_congr_left; intro m _; exact wRow_mail m
  rw [e, List.length_map] at this
  exact this
theorem laws_szBox.says (h : laws_szBox.k M) (b : Box) (hb : BoxFits b) (k : Nat) (hk : k ≤ 1048576) : run M 17 [.a (encBox b), .c (I k)] [] = some (.c (I (if k < wBox b then -1 else (k : Int) - wBox b)), []) := by
  have hx : maxLen = 9223372036854775807 := rfl
  obtain ⟨f1, f2, f3, f4⟩ := hb
  obtain ⟨h0, k1, k2⟩ := h
  refine run_code (b := laws_szBox.m) h0 ⟨0, ?_⟩
  have e1 : IntKind.i64.wrap ((k : Int) - b.name.length) = (k : Int) - b.name.length := wrap_i64 (by omega) (by omega)
  by_cases c1 : k < b.name.length
  · have d1 : (k : Int) - b.name.length < 0 := by omega
    rw [if_pos (show k < wBox b by unfold wBox; omega)]
    simp [exB, laws_szBox.m, laws_szBox.b, List.range_succ, e1, d1]
  have d1 : ¬ (k : Int) - b.name.length < 0 := by omega
  have h1 := laws_szMailS.says k1 b.mails f2 f4 (k - b.name.length) (by omega)
  rw [show ((k - b.name.length : Nat) : Int) = (k : Int) - b.name.length by omega] at h1
  by_cases c2 : k - b.name.length < wMails b.mails
  · rw [if_pos c2] at h1
    rw [if_pos (show k < wBox b by unfold wBox; omega)]
    simp [exB, laws_szBox.m, laws_szBox.b, List.range_succ, e1, d1, h1]
  rw [if_neg c2] at h1
  have d2 : ¬ (k : Int) - b.name.length - wMails b.mails < 0 := by omega
  have h2 := laws_szIntS.says k2 b.gone (by omega) ((k : Int) - b.name.length - wMails b.mails) (by omega) (by omega)
  by_cases c3 : (k : Int) - b.name.length - wMails b.mails < b.gone.length
  · rw [if_pos c3] at h2
    rw [if_pos (show k < wBox b by unfold wBox; omega)]
    simp [exB, laws_szBox.m, laws_szBox.b, List.range_succ, e1, d1, d2, h1, h2]
  · rw [if_neg c3] at h2
    have d3 : ¬ (k : Int) - b.name.length - wMails b.mails - b.gone.length < 0 := by omega
    rw [if_neg (show ¬ k < wBox b by unfold wBox; omega)]
    have e4 : (k : Int) - (wBox b : Nat) = (k : Int) - b.name.length - wMails b.mails - b.gone.length := by unfold wBox; omega
    rw [e4]
    simp [exB, laws_szBox.m, laws_szBox.b, List.range_succ, e1, d1, d2, d3, h1, h2]

/-! ## laid over -/
theorem laws_toStamp.says (h : laws_toStamp.k M) (a b : Int) : run M 109 [.a [I a, I b]] [] = some (.a [I a, I b], []) := by
  refine run_code (b := laws_toStamp.m) h ⟨0, ?_⟩
  simp [exB, laws_toStamp.m, laws_toStamp.b, List.range_succ]
theorem laws_toReg.says (h : laws_toReg.k M) (r : Reg) : run M 288 [.a (encReg r)] [] = some (.a (encReg r), []) := by
  have h1 := laws_toStamp.says h.2 r.time r.who
  refine run_code (b := laws_toReg.m) h.1 ⟨0, ?_⟩
  simp [exB, laws_toReg.m, laws_toReg.b, List.range_succ, h1]
theorem laws_toRegS.says (h : laws_toRegS.k M) (l : List Reg) (hl : l.length ≤ 1048576) : run M 251 [.c (regs l)] [] = some (.c (.sl true 3 (l.map encReg)), []) := by
  refine toS_says (M := M) (F := 251) (n := 3) (by' := 24) (z := [.int .i64 0, .int .i64 0, .int .i64 0]) (f := 288) h.1 rfl (by simpa using hl) (by omega) (fun r hr => ?_)
  obtain ⟨x, _, rfl⟩ := List.mem_map.1 hr
  exact ⟨rfl, rfl, _, laws_toReg.says h.2 x, rfl, rfl⟩
theorem laws_toMail.says (h : laws_toMail.k M) (m : Mail) (hm : wMail m ≤ 1048576) : run M 209 [.a (encMail m)] [] = some (.a (encMailO m), []) := by
  have h1 := laws_toRegS.says h.2 m.flags (by unfold wMail at hm; omega)
  refine run_code (b := laws_toMail.m) h.1 ⟨0, ?_⟩
  simp [exB, laws_toMail.m, laws_toMail.b, List.range_succ, h1, setAt, List.take_of_length_le]
theorem laws_toMailS.says (h : laws_toMailS.k M) (l : List Mail) (hl : wMails l ≤ 1048576) : run M 110 [.c (mails l)] [] = some (.c (.sl true 4 (l.map encMail)), []) := by
  refine toS_says (M := M) (F := 110) (n := 4) (by' := 56) (z := [.int .i64 0, .int .i64 0, .nils 3, .str ⟨#[]⟩]) (f := 209) h.1 rfl (by simp; unfold wMails at hl; omega) (by omega) (fun r hr => ?_)
  obtain ⟨x, hx, rfl⟩ := List.mem_map.1 hr
  exact ⟨rfl, rfl, _, laws_toMail.says h.2 x (Nat.le_trans (wMail_le hx) hl), rfl, rfl⟩
theorem laws_toBox.says (h : laws_toBox.k M) (b : Box) (hb : wBox b ≤ 1048576) : run M 18 [.a (encBox b)] [] = some (.a (encBoxO b), []) := by
  obtain ⟨h0, k1, k2, k3⟩ := h
  have h1 := laws_toIntS.says k1 b.gone (by unfold wBox at hb; omega)
  have h2 := laws_toStamp.says k2 b.time b.who
  have h3 := laws_toMailS.says k3 b.mails (by unfold wBox at hb; omega)
  refine run_code (b := laws_toBox.m) h0 ⟨0, ?_⟩
  simp [exB, laws_toBox.m, laws_toBox.b, List.range_succ, h1, h2, h3, setAt, List.take_of_length_le]

/-! ## held against -/
theorem laws_eqStamp.says (h : laws_eqStamp.k M) (a b : Int) : run M 111 [.a [I a, I b], .a [I a, I b]] [] = some (.c (.bool true), []) := by
  refine run_code (b := laws_eqStamp.m) h ⟨0, ?_⟩
  simp [exB, laws_eqStamp.m, laws_eqStamp.b, List.range_succ]
theorem laws_eqReg.says (h : laws_eqReg.k M) (r : Reg) : run M 289 [.a (encReg r), .a (encReg r)] [] = some (.c (.bool true), []) := by
  have h1 := laws_eqStamp.says h.2 r.time r.who
  refine run_code (b := laws_eqReg.m) h.1 ⟨0, ?_⟩
  simp [exB, laws_eqReg.m, laws_eqReg.b, List.range_succ, h1]
theorem laws_eqRegS.says (h : laws_eqRegS.k M) (l : List Reg) (hl : l.length ≤ 1048576) : run M 252 [.c (regs l), .c (regs l)] [] = some (.c (.bool true), []) := by
  refine eqS_says (M := M) (F := 252) (n := 3) (f := 289) h.1 (by simp; omega) (fun r hr => ?_)
  obtain ⟨x, _, rfl⟩ := List.mem_map.1 hr
  exact ⟨rfl, rfl, laws_eqReg.says h.2 x⟩
theorem laws_eqMail.says (h : laws_eqMail.k M) (m : Mail) (hm : wMail m ≤ 1048576) : run M 210 [.a (encMail m), .a (encMail m)] [] = some (.c (.bool true), []) := by
  have h1 := laws_eqRegS.says h.2 m.flags (by unfold wMail at hm; omega)
  refine run_code (b := laws_eqMail.m) h.1 ⟨0, ?_⟩
  simp [exB, laws_eqMail.m, laws_eqMail.b, List.range_succ, h1]
theorem laws_eqMailS.says (h : laws_eqMailS.k M) (l : List Mail) (hl : wMails l ≤ 1048576) : run M 112 [.c (mails l), .c (mails l)] [] = some (.c (.bool true), []) := by
  refine eqS_says (M := M) (F := 112) (n := 4) (f := 210) h.1 (by simp; unfold wMails at hl; omega) (fun r hr => ?_)
  obtain ⟨x, hx, rfl⟩ := List.mem_map.1 hr
  exact ⟨rfl, rfl, laws_eqMail.says h.2 x (Nat.le_trans (wMail_le hx) hl)⟩
theorem laws_eqBox.says (h : laws_eqBox.k M) (b : Box) (hb : wBox b ≤ 1048576) : run M 21 [.a (encBox b), .a (encBox b)] [] = some (.c (.bool true), []) := by
  obtain ⟨h0, k1, k2, k3⟩ := h
  have h1 := laws_eqIntS.says k1 b.gone (by unfold wBox at hb; omega)
  have h2 := laws_eqStamp.says k2 b.time b.who
  have h3 := laws_eqMailS.says k3 b.mails (by unfold wBox at hb; omega)
  refine run_code (b := laws_eqBox.m) h0 ⟨0, ?_⟩
  simp [exB, laws_eqBox.m, laws_eqBox.b, List.range_succ, h1, h2, h3]
end Mx

/-
  Where a mail stands in a box; Holds, KeepsUid and their laws.
-/
namespace Mx
open Go
variable {M : Nat → Option Body}
/-- the first mail of this number, from a place on -/
def atO (l : List Mail) (g : Int) : Nat → Nat → Option Nat
  | 0, _ => none
  | d + 1, i => if h : i < l.length then (if l[i].gid = g then some i else atO l g d (i + 1)) else none
def mailO (l : List Mail) (g : Int) : Option Nat := atO l g l.length 0
def intO : Option Nat → Int
  | some i => i
  | none => -1
theorem atO_lt (l : List Mail) (g : Int) : ∀ d i k, atO l g d i = some k → k < l.length
  | 0, i, k, h => by simp [atO] at h
  | d + 1, i, k, h => by
    rw [atO] at h
    by_cases hl : i < l.length
    · rw [dif_pos hl] at h
      split at h
      · cases h; exact hl
      · exact atO_lt l g d (i + 1) k h
    · rw [dif_neg hl] at h; cases h
def atFin (q : Option Nat) (m : St) : Out × St := match q with
  | some i => (.ret, { t := [(4, .c (I i))], o := [], n := m.n })
  | none => (.exit 0, m)
theorem atFin_ne (q : Option Nat) (m : St) : (atFin q m).1 ≠ .normal := by cases q <;> simp [atFin]
/-- the loop of either -/
theorem at_loop {f : St → Option (Out × St)} {β : Type} (l : List Mail) (g : Int) (S : Nat → β → St)
    (h1 : ∀ i (h : i < l.length) x, l[i].gid = g → ∃ m, f (S i x) = some (atFin (some i) m)) (h2 : ∀ i (h : i < l.length) x, ¬ l[i].gid = g → ∃ y, f (S i x) = some (.normal, S (i + 1) y))
    (h3 : ∀ x, ∃ m, f (S l.length x) = some (atFin none m)) : ∃ g' : β → St, ∀ x, loopN f (l.length + 1) (S 0 x) = some (atFin (mailO l g) (g' x)) := by
  refine loop_all (f := f) S (fun i => i ≤ l.length) (fun i => l.length - i) (fun i => atO l g (l.length - i) i) atFin ?_ (l.length + 1) 0 (Nat.zero_le _) (by omega)
  intro i x hi
  by_cases hlt : i < l.length
  · have hd : l.length - i = (l.length - (i + 1)) + 1 := by omega
    have hg : atO l g (l.length - i) i = if l[i].gid = g then some i else atO l g (l.length - (i + 1)) (i + 1) := by rw [hd, atO, dif_pos hlt]
    simp only [hg]
    by_cases c : l[i].gid = g
    · right
      obtain ⟨m, hm⟩ := h1 i hlt x c
      rw [if_pos c]
      exact ⟨m, hm, atFin_ne _ _⟩
    · left
      obtain ⟨y, hy⟩ := h2 i hlt x c
      rw [if_neg c]
      exact ⟨i + 1, y, hy, hlt, by omega, rfl⟩
  · have : i = l.length := by omega
    subst this
    right
    obtain ⟨m, hm⟩ := h3 x
    simp only [Nat.sub_self, atO]
    exact ⟨m, hm, atFin_ne _ _⟩

def spAtS (b : Box) (g : Int) (i : Nat) (x : Nat × Nat) : St := { t := [(1, .c (I g)), (2, .c (.ptr 2 x.1 0 0)), (5, .c (I i))], o := [(2, ⟨x.1, 7, true, true, [encBox b]⟩)], n := x.2 }
theorem spec_MailAt.says (h : spec_MailAt.k M) (b : Box) (g : Int) (hb : b.mails.length ≤ 1048576) : run M 91 [.a (encBox b), .c (I g)] [] = some (.c (I (intO (mailO b.mails g))), []) := by
  refine run_code (b := spec_MailAt.m) h ⟨b.mails.length + 1, ?_⟩
  obtain ⟨g', hr⟩ := at_loop (f := exC (run M) (b.mails.length + 1) spec_MailAt.l0) b.mails g (spAtS b g)
    (fun i hi x c => by
      obtain ⟨v, x⟩ := x
      simp [spAtS, spec_MailAt.l0, hi, c, encMail, atFin]
      exact ⟨⟨[], [], _⟩, rfl⟩)
    (fun i hi x c => by
      obtain ⟨v, x⟩ := x
      have e5 : IntKind.i64.wrap ((i : Int) + 1) = (i : Int) + 1 := wrap_i64 (by omega) (by omega)
      simp only [Prod.exists]
      simp [spAtS, spec_MailAt.l0, hi, c, encMail, e5])
    (fun x => by
      obtain ⟨v, x⟩ := x
      simp [spAtS, spec_MailAt.l0, atFin])
  cases hm : mailO b.mails g with
  | none =>
    simp [spAtS, hm, atFin] at hr
    simp [exB, spec_MailAt.m, spec_MailAt.b, List.range_succ, hr, intO]
  | some k =>
    simp [spAtS, hm, atFin] at hr
    simp [exB, spec_MailAt.m, spec_MailAt.b, List.range_succ, hr, intO]
theorem impl_MailAt_1.says (h : impl_MailAt_1.k M) (m : Mail) (g : Int) : run M 160 [.a (encMail m), .c (.vp [I g] 0)] [] = some (.c (.bool (decide (m.gid = g))), []) := by
  refine run_code (b := impl_MailAt_1.m) h ⟨0, ?_⟩
  simp [exB, impl_MailAt_1.m, impl_MailAt_1.b, List.range_succ]
def ixS (l : List Mail) (g : Int) (i : Nat) (x : Nat) : St := { t := [(0, .c (mails l)), (1, .c (.fn 160 [.vp [I g] 0])), (7, .c (I l.length)), (8, .c (I i))], o := [], n := x }
theorem slices_IndexFunc_impl_Mail_impl_Mail.says (h : slices_IndexFunc_impl_Mail_impl_Mail.k M) (h2 : impl_MailAt_1.k M) (l : List Mail) (g : Int) (hl : l.length ≤ 1048576) :
    run M 161 [.c (mails l), .c (.fn 160 [.vp [I g] 0])] [] = some (.c (I (intO (mailO l g))), []) := by
  refine run_code (b := slices_IndexFunc_impl_Mail_impl_Mail.m) h ⟨l.length + 1, ?_⟩
  obtain ⟨g', hr⟩ := at_loop (f := exC (run M) (l.length + 1) slices_IndexFunc_impl_Mail_impl_Mail.l0) l g (ixS l g)
    (fun i hi x c => by
      have hm := impl_MailAt_1.says h2 l[i] g
      rw [decide_eq_true c] at hm
      simp [ixS, slices_IndexFunc_impl_Mail_impl_Mail.l0, hi, hm, encMail, atFin]
      exact ⟨⟨[], [], _⟩, rfl⟩)
    (fun i hi x c => by
      have hm := impl_MailAt_1.says h2 l[i] g
      rw [decide_eq_false c] at hm
      have e5 : IntKind.i64.wrap ((i : Int) + 1) = (i : Int) + 1 := wrap_i64 (by omega) (by omega)
      simp [ixS, slices_IndexFunc_impl_Mail_impl_Mail.l0, hi, hm, encMail, e5])
    (fun x => by simp [ixS, slices_IndexFunc_impl_Mail_impl_Mail.l0, atFin])
  cases hm : mailO l g with
  | none =>
    simp [ixS, hm, atFin] at hr
    simp [exB, slices_IndexFunc_impl_Mail_impl_Mail.m, slices_IndexFunc_impl_Mail_impl_Mail.b, List.range_succ, hr, intO]
  | some k =>
    simp [ixS, hm, atFin] at hr
    simp [exB, slices_IndexFunc_impl_Mail_impl_Mail.m, slices_IndexFunc_impl_Mail_impl_Mail.b, List.range_succ, hr, intO]
theorem impl_MailAt.says (h : impl_MailAt.k M) (b : Box) (g : Int) (hb : b.mails.length ≤ 1048576) : run M 72 [.a (encBox b), .c (I g)] [] = some (.c (I (intO (mailO b.mails g))), []) := by
  have h1 := slices_IndexFunc_impl_Mail_impl_Mail.says h.2.2 h.2.1 b.mails g hb
  refine run_code (b := impl_MailAt.m) h.1 ⟨0, ?_⟩
  simp [exB, impl_MailAt.m, impl_MailAt.b, List.range_succ, h1]

def holds (b : Box) (g : Int) : Bool := decide (0 ≤ intO (mailO b.mails g))
theorem spec_Holds.says (h : spec_Holds.k M) (b : Box) (g : Int) (hb : b.mails.length ≤ 1048576) : run M 19 [.a (encBox b), .c (I g)] [] = some (.c (.bool (holds b g)), []) := by
  have h1 := spec_MailAt.says h.2 b g hb
  refine run_code (b := spec_Holds.m) h.1 ⟨0, ?_⟩
  simp [exB, spec_Holds.m, spec_Holds.b, List.range_succ, h1, holds, List.take_of_length_le]
theorem impl_Holds.says (h : impl_Holds.k M) (b : Box) (g : Int) (hb : b.mails.length ≤ 1048576) : run M 20 [.a (encBox b), .c (I g)] [] = some (.c (.bool (holds b g)), []) := by
  have h1 := impl_MailAt.says h.2 b g hb
  refine run_code (b := impl_Holds.m) h.1 ⟨0, ?_⟩
  simp [exB, impl_Holds.m, impl_Holds.b, List.range_succ, h1, holds, List.take_of_length_le]
theorem wBox_mails {b : Box} {n : Nat} (h : wBox b ≤ n) : b.mails.length ≤ n := by unfold wBox wMails at h; omega
theorem laws_FnExactHolds.says (h : laws_FnExactHolds.k M) (b : Box) (g : Int) (hb : BoxFits b) : run M 365 [.a (encBox b), .c (I g)] [] = some (.c (.bool true), []) := by
  obtain ⟨h0, k1, k2, k3, k4, k5⟩ := h
  have h1 := laws_szBox.says k1 b hb 1048576 (by omega)
  refine run_code (b := laws_FnExactHolds.m) h0 ⟨0, ?_⟩
  by_cases c : 1048576 < wBox b
  · rw [if_pos c] at h1
    simp only [Int.cast_ofNat_Int] at h1
    simp [exB, laws_FnExactHolds.m, laws_FnExactHolds.b, List.range_succ, h1, List.take_of_length_le]
  · rw [if_neg c] at h1
    simp only [Int.cast_ofNat_Int] at h1
    have hw : wBox b ≤ 1048576 := by omega
    have e1 : ¬ (1048576 : Int) - wBox b < 0 := by omega
    have h2 := laws_toBox.says k2 b hw
    have h3 := spec_Holds.says k3 b g (wBox_mails hw)
    have h4 := impl_Holds.says k4 b g (wBox_mails hw)
    have h5 := laws_eqBox.says k5 b hw
    simp only [encBox, encBoxO] at h1 h2 h3 h4 h5
    simp [exB, laws_FnExactHolds.m, laws_FnExactHolds.b, List.range_succ, h1, h2, h3, h4, h5, e1, setAt, List.take_of_length_le]
theorem laws_FnExactHolds.row (h : laws_FnExactHolds.k M) {as : List V} (ha : HasVs [.struct ctBox, .cell (.int .i64)] as) : run M 365 as [] = some (.c (.bool true), []) := by
  cases ha with | cons h0 ha =>
  cases ha with | cons h1 ha =>
  cases ha
  cases h0 with | struct h0 =>
  cases h1 with | cell h1 =>
  obtain ⟨b, rfl, hb⟩ := has_box h0
  obtain ⟨g, rfl⟩ := has_int h1
  exact laws_FnExactHolds.says h b g hb
end Mx

/-
  Loops that go through a list up to the first place of a kind.
-/
namespace Mx
open Go
/-- the first place from i on, of the d places there, of which p says yes -/
def firstF (p : Nat → Bool) : Nat → Nat → Option Nat
  | 0, _ => none
  | d + 1, i => if p i = true then some i else firstF p d (i + 1)
def firstN (p : Nat → Bool) (n : Nat) : Option Nat := firstF p n 0
theorem firstF_none (p : Nat → Bool) : ∀ d i, firstF p d i = none → ∀ j, i ≤ j → j < i + d → p j = false
  | 0, i, _, j, h1, h2 => by omega
  | d + 1, i, h, j, h1, h2 => by
    rw [firstF] at h
    split at h
    · cases h
    · by_cases e : j = i
      · subst e; simpa using ‹¬p j = true›
      · exact firstF_none p d (i + 1) h j (by omega) (by omega)
theorem firstF_some (p : Nat → Bool) : ∀ d i k, firstF p d i = some k → i ≤ k ∧ k < i + d ∧ p k = true ∧ ∀ j, i ≤ j → j < k → p j = false
  | d + 1, i, k, h => by
    rw [firstF] at h
    split at h
    · cases h
      exact ⟨by omega, by omega, ‹_›, fun j h1 h2 => by omega⟩
    · obtain ⟨h1, h2, h3, h4⟩ := firstF_some p d (i + 1) k h
      refine ⟨by omega, by omega, h3, fun j h5 h6 => ?_⟩
      by_cases e : j = i
      · subst e; simpa using ‹¬p j = true›
      · exact h4 j (by omega) h6
theorem firstN_none {p : Nat → Bool} {n : Nat} (h : firstN p n = none) : ∀ j, j < n → p j = false := fun j hj => firstF_none p n 0 h j (by omega) (by omega)
theorem firstN_some {p : Nat → Bool} {n k : Nat} (h : firstN p n = some k) : k < n ∧ p k = true ∧ ∀ j, j < k → p j = false := by
  obtain ⟨_, h2, h3, h4⟩ := firstF_some p n 0 k h
  exact ⟨by omega, h3, fun j hj => h4 j (by omega) hj⟩
theorem firstN_isNone {p : Nat → Bool} {n : Nat} : firstN p n = none ↔ ∀ j, j < n → p j = false := by
  refine ⟨firstN_none, fun h => ?_⟩
  cases q : firstN p n with
  | none => rfl
  | some k =>
    obtain ⟨h1, h2, _⟩ := firstN_some q
    rw [h k h1] at h2; cases h2
theorem firstN_eq {p : Nat → Bool} {n k : Nat} (h1 : k < n) (h2 : p k = true) (h3 : ∀ j, j < k → p j = false) : firstN p n = some k := by
  cases q : firstN p n with
  | none => rw [firstN_none q k h1] at h2; cases h2
  | some i =>
    obtain ⟨q1, q2, q3⟩ := firstN_some q
    by_cases e : i < k
    · rw [h3 i e] at q2; cases q2
    · by_cases e' : k < i
      · rw [q3 k e'] at h2; cases h2
      · rw [show i = k by omega]
theorem first_loop {γ β : Type} (n : Nat) (p : Nat → Bool) {f : St → Option (Out × St)} (S : Nat → β → St) (fin : Option Nat → γ → Out × St) (hfin : ∀ q m, (fin q m).1 ≠ .normal)
    (h1 : ∀ i, i < n → ∀ x, p i = false → ∃ y, f (S i x) = some (.normal, S (i + 1) y)) (h2 : ∀ i, i < n → ∀ x, p i = true → ∃ m, f (S i x) = some (fin (some i) m))
    (h3 : ∀ x, ∃ m, f (S n x) = some (fin none m)) : ∃ g : β → γ, ∀ x, loopN f (n + 1) (S 0 x) = some (fin (firstN p n) (g x)) := by
  refine loop_all (f := f) S (fun i => i ≤ n) (fun i => n - i) (fun i => firstF p (n - i) i) fin ?_ (n + 1) 0 (Nat.zero_le _) (by omega)
  intro i x hi
  by_cases hlt : i < n
  · have hd : n - i = (n - (i + 1)) + 1 := by omega
    have hg : firstF p (n - i) i = if p i = true then some i else firstF p (n - (i + 1)) (i + 1) := by rw [hd, firstF]
    simp only [hg]
    by_cases c : p i = true
    · right
      obtain ⟨m, hm⟩ := h2 i hlt x c
      rw [if_pos c]
      exact ⟨m, hm, hfin _ _⟩
    · left
      obtain ⟨y, hy⟩ := h1 i hlt x (by simpa using c)
      rw [if_neg c]
      exact ⟨i + 1, y, hy, hlt, by omega, rfl⟩
  · have : i = n := by omega
    subst this
    right
    obtain ⟨m, hm⟩ := h3 x
    simp only [Nat.sub_self, firstF]
    exact ⟨m, hm, hfin _ _⟩
theorem loopN_le {f : St → Option (Out × St)} {n m : Nat} {s : St} {r : Out × St} (h : loopN f n s = some r) (hm : n ≤ m) : loopN f m s = some r := loopN_mono (fun _ _ h => h) hm h
/-- a loop that answers w at the first place found, and goes on behind itself if there is none -/
def fin1 {β : Type} (r : Nat) (w : T) (e : Nat) (E : β → St) (q : Option Nat) (m : β × Nat) : Out × St := match q with
  | none => (.exit e, E m.1)
  | some _ => (.ret, { t := [(r, .c w)], o := [], n := m.2 })
theorem early_loop {β : Type} (n : Nat) (p : Nat → Bool) {f : St → Option (Out × St)} (S : Nat → β → St) (r : Nat) (w : T) (e : Nat) (E : β → St)
    (h1 : ∀ i, i < n → ∀ x, p i = false → ∃ y, f (S i x) = some (.normal, S (i + 1) y)) (h2 : ∀ i, i < n → ∀ x, p i = true → ∃ k, f (S i x) = some (.ret, { t := [(r, .c w)], o := [], n := k }))
    (h3 : ∀ x, ∃ y, f (S n x) = some (.exit e, E y)) : ∃ g : β → β × Nat, ∀ x, loopN f (n + 1) (S 0 x) = some (fin1 r w e E (firstN p n) (g x)) :=
  first_loop n p S (fin1 r w e E) (fun q m => by cases q <;> simp [fin1]) h1 (fun i hi x c => by
    obtain ⟨k, hk⟩ := h2 i hi x c
    exact ⟨(x, k), hk⟩) (fun x => by
    obtain ⟨y, hy⟩ := h3 x
    exact ⟨(y, 0), hy⟩)
/-- a loop that goes through a whole list with what it has so far -/
theorem fold_loop {α σ β γ : Type} (l : List α) (step : σ → α → σ) (Inv : Nat → σ → Prop) {f : St → Option (Out × St)} (S : Nat → σ → β → St) (e : Nat) (E : σ → γ → St)
    (hI : ∀ i (h : i < l.length) s, Inv i s → Inv (i + 1) (step s l[i]))
    (h1 : ∀ i (h : i < l.length) s x, Inv i s → ∃ y, f (S i s x) = some (.normal, S (i + 1) (step s l[i]) y))
    (h3 : ∀ s x, Inv l.length s → ∃ y, f (S l.length s x) = some (.exit e, E s y)) (s : σ) (h0 : Inv 0 s) :
    ∃ g : β → γ, ∀ x, loopN f (l.length + 1) (S 0 s x) = some (.exit e, E (l.foldl step s) (g x)) := by
  refine loop_all (f := f) (fun p : Nat × σ => S p.1 p.2) (fun p => p.1 ≤ l.length ∧ Inv p.1 p.2) (fun p => l.length - p.1) (fun p => (l.drop p.1).foldl step p.2) (fun q m => (.exit e, E q m)) ?_ (l.length + 1) (0, s) ⟨Nat.zero_le _, h0⟩ (by simp)
  rintro ⟨i, s⟩ x ⟨hi, hs⟩
  simp only at hi hs
  by_cases hlt : i < l.length
  · left
    obtain ⟨y, hy⟩ := h1 i hlt s x hs
    refine ⟨(i + 1, step s l[i]), y, hy, ⟨hlt, hI i hlt s hs⟩, by simp only; omega, ?_⟩
    simp only
    rw [List.drop_eq_getElem_cons hlt, List.foldl_cons]
  · have : i = l.length := by omega
    subst this
    right
    obtain ⟨y, hy⟩ := h3 s x hs
    exact ⟨y, by simp [hy], by simp⟩
theorem foldl_inv {α σ : Type} (l : List α) (step : σ → α → σ) (Inv : Nat → σ → Prop) (hI : ∀ i (h : i < l.length) s, Inv i s → Inv (i + 1) (step s l[i])) : ∀ s, Inv 0 s → Inv l.length (l.foldl step s) := by
  have key : ∀ d i s, i + d = l.length → Inv i s → Inv l.length ((l.drop i).foldl step s) := by
    intro d
    induction d with
    | zero => intro i s hi h; have : i = l.length := by omega
              subst this; simpa using h
    | succ d ih =>
      intro i s hi h
      have hlt : i < l.length := by omega
      rw [List.drop_eq_getElem_cons hlt, List.foldl_cons]
      exact ih (i + 1) _ (by omega) (hI i hlt s h)
  intro s h
  simpa using key l.length 0 s (by omega) h
/-- texts one behind the other -/
def texts {α : Type} (t : α → List UInt8) (l : List α) : List UInt8 := l.flatMap t
theorem texts_fold {α : Type} (t : α → List UInt8) (l : List α) (s : List UInt8) : l.foldl (fun s x => s ++ t x) s = s ++ texts t l := by
  induction l generalizing s with
  | nil => simp [texts]
  | cons x l ih => simp [ih, texts, List.flatMap_cons]
theorem texts_len {α : Type} (t : α → List UInt8) (l : List α) (c : Nat) (h : ∀ x ∈ l, (t x).length ≤ c) : (texts t l).length ≤ l.length * c := by
  induction l with
  | nil => simp [texts]
  | cons x l ih =>
    have h1 := ih fun y hy => h y (List.mem_cons_of_mem _ hy)
    have h2 := h x (List.mem_cons_self ..)
    simp only [texts, List.flatMap_cons, List.length_append, List.length_cons] at h1 ⊢
    have : (l.length + 1) * c = l.length * c + c := Nat.succ_mul _ _
    omega
/-- a loop that puts texts behind a text -/
theorem text_loop {α β γ : Type} (l : List α) (t : α → List UInt8) (c a : Nat) (hc : ∀ x ∈ l, (t x).length ≤ c) {f : St → Option (Out × St)} (S : Nat → List UInt8 → β → St) (e : Nat) (E : List UInt8 → γ → St)
    (h1 : ∀ i (h : i < l.length) s x, s.length ≤ a + i * c → ∃ y, f (S i s x) = some (.normal, S (i + 1) (s ++ t l[i]) y))
    (h3 : ∀ s x, ∃ y, f (S l.length s x) = some (.exit e, E s y)) (s : List UInt8) (h0 : s.length ≤ a) :
    ∃ g : β → γ, ∀ x, loopN f (l.length + 1) (S 0 s x) = some (.exit e, E (s ++ texts t l) (g x)) := by
  have := fold_loop l (fun s x => s ++ t x) (fun i s => s.length ≤ a + i * c) S e E (fun i h s hs => by
    have h2 := hc _ (List.getElem_mem h)
    have : (i + 1) * c = i * c + c := Nat.succ_mul _ _
    simp only [List.length_append]; omega) h1 (fun s x _ => h3 s x) s (by simpa using h0)
  simpa only [texts_fold] using this
end Mx

/-
  What is right: stamps, registers, flags, mails, names, lists of numbers, boxes.
-/
namespace Mx
open Go
variable {M : Nat → Option Body}
def inR (a n b : Int) : Bool := decide (a ≤ n) && decide (n ≤ b)
theorem impl_within.inR (h : impl_within.k M) (n a b : Int) : run M 101 [.c (I n), .c (I a), .c (I b)] [] = some (.c (.bool (inR a n b)), []) := impl_within.says h n a b
theorem spec_l01In.inR (h : spec_l01In.k M) (n a b : Int) : run M 98 [.c (I n), .c (I a), .c (I b)] [] = some (.c (.bool (inR a n b)), []) := spec_l01In.says h n a b
def stampOk (t w : Int) : Bool := inR 0 t 100000 && inR 0 w 2
theorem impl_StampOk.says (h : impl_StampOk.k M) (t w : Int) : run M 164 [.a [I t, I w]] [] = some (.c (.bool (stampOk t w)), []) := by
  have h1 := impl_within.inR h.2 t 0 100000
  have h2 := impl_within.inR h.2 w 0 2
  refine run_code (b := impl_StampOk.m) h.1 ⟨0, ?_⟩
  cases c : inR 0 t 100000 <;> simp (maxSteps := 1000000) (disch := (first | omega | (simp; done) | (simp; omega))) [exB, impl_StampOk.m, impl_StampOk.b, List.range_succ, bs_get, List.take_of_length_le, setAt, str_add, h1, h2, c, stampOk]
theorem spec_StampOk.says (h : spec_StampOk.k M) (t w : Int) : run M 183 [.a [I t, I w]] [] = some (.c (.bool (stampOk t w)), []) := by
  have h1 := spec_l01In.inR h.2 t 0 100000
  have h2 := spec_l01In.inR h.2 w 0 2
  refine run_code (b := spec_StampOk.m) h.1 ⟨0, ?_⟩
  cases c : inR 0 t 100000 <;> simp (maxSteps := 1000000) (disch := (first | omega | (simp; done) | (simp; omega))) [exB, spec_StampOk.m, spec_StampOk.b, List.range_succ, bs_get, List.take_of_length_le, setAt, str_add, h1, h2, c, stampOk]
def regOk (r : Reg) : Bool := stampOk r.time r.who && inR 0 r.val 1000000000
theorem impl_RegOk.says (h : impl_RegOk.k M) (r : Reg) : run M 272 [.a (encReg r)] [] = some (.c (.bool (regOk r)), []) := by
  have h1 := impl_StampOk.says h.2.2 r.time r.who
  have h2 := impl_within.inR h.2.1 r.val 0 1000000000
  refine run_code (b := impl_RegOk.m) h.1 ⟨0, ?_⟩
  cases c : stampOk r.time r.who <;> simp (maxSteps := 1000000) (disch := (first | omega | (simp; done) | (simp; omega))) [exB, impl_RegOk.m, impl_RegOk.b, List.range_succ, bs_get, List.take_of_length_le, setAt, str_add, h1, h2, c, regOk]
theorem spec_RegOk.says (h : spec_RegOk.k M) (r : Reg) : run M 276 [.a (encReg r)] [] = some (.c (.bool (regOk r)), []) := by
  have h1 := spec_StampOk.says h.2.2 r.time r.who
  have h2 := spec_l01In.inR h.2.1 r.val 0 1000000000
  refine run_code (b := spec_RegOk.m) h.1 ⟨0, ?_⟩
  cases c : stampOk r.time r.who <;> simp (maxSteps := 1000000) (disch := (first | omega | (simp; done) | (simp; omega))) [exB, spec_RegOk.m, spec_RegOk.b, List.range_succ, bs_get, List.take_of_length_le, setAt, str_add, h1, h2, c, regOk]

/-! ## flags -/
def badFlag (l : List Reg) (i : Nat) : Bool := match l[i]? with
  | some r => !regOk r || decide (1 < r.val)
  | none => false
def flagsOk (l : List Reg) : Bool := (firstN (badFlag l) l.length).isNone && decide (l.length = 3)
theorem badFlag_at {l : List Reg} {i : Nat} (h : i < l.length) : badFlag l i = (!regOk l[i] || decide (1 < l[i].val)) := by simp [badFlag, h]
def ifS (l : List Reg) (i : Nat) (x : Nat) : St := { t := [(0, .c (regs l)), (5, .c (regs l)), (6, .c (I l.length)), (7, .c (I i))], o := [], n := x }
def ifE (l : List Reg) (x : Nat) : St := { t := [(0, .c (regs l)), (5, .c (regs l)), (6, .c (I l.length)), (7, .c (I l.length)), (8, .c (.bool false))], o := [], n := x }
theorem impl_FlagsOk.says (h : impl_FlagsOk.k M) (l : List Reg) (hl : l.length ≤ 1048576) : run M 235 [.c (regs l)] [] = some (.c (.bool (flagsOk l)), []) := by
  refine run_code (b := impl_FlagsOk.m) h.1 ⟨l.length + 1, ?_⟩
  obtain ⟨g, hr⟩ := early_loop (f := exC (run M) (l.length + 1) impl_FlagsOk.l0) l.length (badFlag l) (ifS l) 2 (.bool false) 0 (ifE l)
    (fun i hi x c => by
      have e5 : IntKind.i64.wrap ((i : Int) + 1) = (i : Int) + 1 := wrap_i64 (by omega) (by omega)
      have hm := impl_RegOk.says h.2 l[i]
      rw [badFlag_at hi] at c
      simp at c
      simp only [encReg, c.1] at hm
      have c2 : ¬ (1 : Int) < l[i].val := by omega
      simp (maxSteps := 1000000) (disch := (first | omega | (simp; done) | (simp; omega))) [impl_FlagsOk.l0, List.range_succ, bs_get, List.take_of_length_le, setAt, str_add, ifS, hi, hm, encReg, c, c2, e5])
    (fun i hi x c => by
      have hm := impl_RegOk.says h.2 l[i]
      rw [badFlag_at hi] at c
      cases c1 : regOk l[i]
      · simp only [encReg, c1] at hm
        simp (maxSteps := 1000000) (disch := (first | omega | (simp; done) | (simp; omega))) [impl_FlagsOk.l0, List.range_succ, bs_get, List.take_of_length_le, setAt, str_add, ifS, hi, hm, encReg, c1]
      · simp [c1] at c
        simp only [encReg, c1] at hm
        simp (maxSteps := 1000000) (disch := (first | omega | (simp; done) | (simp; omega))) [impl_FlagsOk.l0, List.range_succ, bs_get, List.take_of_length_le, setAt, str_add, ifS, hi, hm, encReg, c1, c])
    (fun x => by simp (maxSteps := 1000000) (disch := (first | omega | (simp; done) | (simp; omega))) [impl_FlagsOk.l0, List.range_succ, bs_get, List.take_of_length_le, setAt, str_add, ifS, ifE])
  cases q : firstN (badFlag l) l.length with
  | none =>
    simp [ifS, ifE, q, fin1] at hr
    simp (maxSteps := 1000000) (disch := (first | omega | (simp; done) | (simp; omega))) [exB, impl_FlagsOk.m, impl_FlagsOk.b, List.range_succ, bs_get, List.take_of_length_le, setAt, str_add, hr, flagsOk, q]
    omega
  | some k =>
    simp [ifS, q, fin1] at hr
    simp (maxSteps := 1000000) (disch := (first | omega | (simp; done) | (simp; omega))) [exB, impl_FlagsOk.m, impl_FlagsOk.b, List.range_succ, bs_get, List.take_of_length_le, setAt, str_add, hr, flagsOk, q]
def sfS (l : List Reg) (i : Nat) (x : Nat) : St := { t := [(0, .c (regs l)), (3, .c (I i))], o := [], n := x }
def sfE (l : List Reg) (x : Nat) : St := { t := [(0, .c (regs l)), (3, .c (I l.length)), (7, .c (.bool false))], o := [], n := x }
theorem spec_FlagsOk.says (h : spec_FlagsOk.k M) (l : List Reg) (hl : l.length ≤ 1048576) : run M 242 [.c (regs l)] [] = some (.c (.bool (flagsOk l)), []) := by
  refine run_code (b := spec_FlagsOk.m) h.1 ⟨l.length + 1, ?_⟩
  obtain ⟨g, hr⟩ := early_loop (f := exC (run M) (l.length + 1) spec_FlagsOk.l0) l.length (badFlag l) (sfS l) 2 (.bool false) 0 (sfE l)
    (fun i hi x c => by
      have e5 : IntKind.i64.wrap ((i : Int) + 1) = (i : Int) + 1 := wrap_i64 (by omega) (by omega)
      have hm := spec_RegOk.says h.2 l[i]
      rw [badFlag_at hi] at c
      simp at c
      simp only [encReg, c.1] at hm
      have c2 : ¬ (1 : Int) < l[i].val := by omega
      simp (maxSteps := 1000000) (disch := (first | omega | (simp; done) | (simp; omega))) [spec_FlagsOk.l0, List.range_succ, bs_get, List.take_of_length_le, setAt, str_add, sfS, hi, hm, encReg, c, c2, e5])
    (fun i hi x c => by
      have hm := spec_RegOk.says h.2 l[i]
      rw [badFlag_at hi] at c
      cases c1 : regOk l[i]
      · simp only [encReg, c1] at hm
        simp (maxSteps := 1000000) (disch := (first | omega | (simp; done) | (simp; omega))) [spec_FlagsOk.l0, List.range_succ, bs_get, List.take_of_length_le, setAt, str_add, sfS, hi, hm, encReg, c1]
      · simp [c1] at c
        simp only [encReg, c1] at hm
        simp (maxSteps := 1000000) (disch := (first | omega | (simp; done) | (simp; omega))) [spec_FlagsOk.l0, List.range_succ, bs_get, List.take_of_length_le, setAt, str_add, sfS, hi, hm, encReg, c1, c])
    (fun x => by simp (maxSteps := 1000000) (disch := (first | omega | (simp; done) | (simp; omega))) [spec_FlagsOk.l0, List.range_succ, bs_get, List.take_of_length_le, setAt, str_add, sfS, sfE])
  cases q : firstN (badFlag l) l.length with
  | none =>
    simp [sfS, sfE, q, fin1] at hr
    simp (maxSteps := 1000000) (disch := (first | omega | (simp; done) | (simp; omega))) [exB, spec_FlagsOk.m, spec_FlagsOk.b, List.range_succ, bs_get, List.take_of_length_le, setAt, str_add, hr, flagsOk, q]
    omega
  | some k =>
    simp [sfS, q, fin1] at hr
    simp (maxSteps := 1000000) (disch := (first | omega | (simp; done) | (simp; omega))) [exB, spec_FlagsOk.m, spec_FlagsOk.b, List.range_succ, bs_get, List.take_of_length_le, setAt, str_add, hr, flagsOk, q]

/-! ## mails -/
theorem impl_isGid.says (h : impl_isGid.k M) (n : Int) : run M 147 [.c (I n)] [] = some (.c (.bool (inR 1 n 9999)), []) := by
  have h1 := impl_within.inR h.2 n 1 9999
  refine run_code (b := impl_isGid.m) h.1 ⟨0, ?_⟩
  simp (maxSteps := 1000000) (disch := (first | omega | (simp; done) | (simp; omega))) [exB, impl_isGid.m, impl_isGid.b, List.range_succ, bs_get, List.take_of_length_le, setAt, str_add, h1]
def mailOk (m : Mail) : Bool := inR 1 m.gid 9999 && inR 1 m.uid 9999 && flagsOk m.flags && decide (m.text.length ≤ 60)
theorem impl_MailOk.says (h : impl_MailOk.k M) (m : Mail) (hl : m.flags.length ≤ 1048576) : run M 166 [.a (encMail m)] [] = some (.c (.bool (mailOk m)), []) := by
  have h1 := impl_isGid.says h.2.1 m.gid
  have h2 := impl_isGid.says h.2.1 m.uid
  have h3 := impl_FlagsOk.says h.2.2 m.flags hl
  refine run_code (b := impl_MailOk.m) h.1 ⟨0, ?_⟩
  cases c1 : inR 1 m.gid 9999
  · simp (maxSteps := 1000000) (disch := (first | omega | (simp; done) | (simp; omega))) [exB, impl_MailOk.m, impl_MailOk.b, List.range_succ, bs_get, List.take_of_length_le, setAt, str_add, h1, c1, mailOk]
  cases c2 : inR 1 m.uid 9999
  · simp (maxSteps := 1000000) (disch := (first | omega | (simp; done) | (simp; omega))) [exB, impl_MailOk.m, impl_MailOk.b, List.range_succ, bs_get, List.take_of_length_le, setAt, str_add, h1, h2, c1, c2, mailOk]
  cases c3 : flagsOk m.flags
  · simp (maxSteps := 1000000) (disch := (first | omega | (simp; done) | (simp; omega))) [exB, impl_MailOk.m, impl_MailOk.b, List.range_succ, bs_get, List.take_of_length_le, setAt, str_add, h1, h2, h3, c1, c2, c3, mailOk]
  simp (maxSteps := 1000000) (disch := (first | omega | (simp; done) | (simp; omega))) [exB, impl_MailOk.m, impl_MailOk.b, List.range_succ, bs_get, List.take_of_length_le, setAt, str_add, h1, h2, h3, c1, c2, c3, mailOk]
  omega
theorem spec_MailOk.says (h : spec_MailOk.k M) (m : Mail) (hl : m.flags.length ≤ 1048576) : run M 187 [.a (encMail m)] [] = some (.c (.bool (mailOk m)), []) := by
  have h1 := spec_l01In.inR h.2.1 m.gid 1 9999
  have h2 := spec_l01In.inR h.2.1 m.uid 1 9999
  have h3 := spec_FlagsOk.says h.2.2 m.flags hl
  refine run_code (b := spec_MailOk.m) h.1 ⟨0, ?_⟩
  cases c1 : inR 1 m.gid 9999
  · simp (maxSteps := 1000000) (disch := (first | omega | (simp; done) | (simp; omega))) [exB, spec_MailOk.m, spec_MailOk.b, List.range_succ, bs_get, List.take_of_length_le, setAt, str_add, h1, c1, mailOk]
  cases c2 : inR 1 m.uid 9999
  · simp (maxSteps := 1000000) (disch := (first | omega | (simp; done) | (simp; omega))) [exB, spec_MailOk.m, spec_MailOk.b, List.range_succ, bs_get, List.take_of_length_le, setAt, str_add, h1, h2, c1, c2, mailOk]
  cases c3 : flagsOk m.flags
  · simp (maxSteps := 1000000) (disch := (first | omega | (simp; done) | (simp; omega))) [exB, spec_MailOk.m, spec_MailOk.b, List.range_succ, bs_get, List.take_of_length_le, setAt, str_add, h1, h2, h3, c1, c2, c3, mailOk]
  simp (maxSteps := 1000000) (disch := (first | omega | (simp; done) | (simp; omega))) [exB, spec_MailOk.m, spec_MailOk.b, List.range_succ, bs_get, List.take_of_length_le, setAt, str_add, h1, h2, h3, c1, c2, c3, mailOk]
  omega

/-! ## names, lists of numbers -/
def badSign (l : List UInt8) (i : Nat) : Bool := match l[i]? with
  | some b => (decide ((b.toNat : Int) < 97) || decide (122 < (b.toNat : Int))) && (decide ((b.toNat : Int) < 48) || decide (57 < (b.toNat : Int)))
  | none => false
theorem badSign_at {l : List UInt8} {i : Nat} (h : i < l.length) :
    badSign l i = ((decide ((l[i].toNat : Int) < 97) || decide (122 < (l[i].toNat : Int))) && (decide ((l[i].toNat : Int) < 48) || decide (57 < (l[i].toNat : Int)))) := by simp [badSign, h]
def nameOk (l : List UInt8) : Bool := (firstN (badSign l) l.length).isNone && inR 1 l.length 12

def inSS (l : List UInt8) (i : Nat) (x : Nat) : St := { t := [(0, .c (S l)), (3, .c (I i))], o := [], n := x }
def inSE (l : List UInt8) (x : Nat) : St := { t := [(0, .c (S l)), (3, .c (I l.length)), (7, .c (.bool false))], o := [], n := x }
theorem impl_NameOk.says (h : impl_NameOk.k M) (l : List UInt8) (hl : l.length ≤ 4611686018427387904) : run M 89 [.c (S l)] [] = some (.c (.bool (nameOk l)), []) := by
  have h1 := impl_within.inR h.2 l.length 1 12
  refine run_code (b := impl_NameOk.m) h.1 ⟨l.length + 1, ?_⟩
  obtain ⟨g, hr⟩ := early_loop (f := exC (run M) (l.length + 1) impl_NameOk.l0) l.length (badSign l) (inSS l) 2 (.bool false) 0 (inSE l)
    (fun i hi x c => by
      have e5 : IntKind.i64.wrap ((i : Int) + 1) = (i : Int) + 1 := wrap_i64 (by omega) (by omega)
      rw [badSign_at hi] at c
      generalize hb : ((l[i].toNat : Nat) : Int) = b at c
      by_cases c1 : b < 97
      · by_cases c2 : b < 48
        · simp [c1, c2] at c
        · by_cases c3 : 57 < b
          · simp [c1, c2, c3] at c
          · simp (maxSteps := 1000000) (disch := (first | omega | (simp; done) | (simp; omega))) [impl_NameOk.l0, List.range_succ, bs_get, List.take_of_length_le, setAt, str_add, inSS, hi, e5, hb, c1, c2, c3]
      · by_cases c4 : 122 < b
        · have c3 : 57 < b := by omega
          simp [c1, c4, c3] at c
        · simp (maxSteps := 1000000) (disch := (first | omega | (simp; done) | (simp; omega))) [impl_NameOk.l0, List.range_succ, bs_get, List.take_of_length_le, setAt, str_add, inSS, hi, e5, hb, c1, c4])
    (fun i hi x c => by
      rw [badSign_at hi] at c
      generalize hb : ((l[i].toNat : Nat) : Int) = b at c
      by_cases c1 : b < 97
      · by_cases c2 : b < 48
        · simp (maxSteps := 1000000) (disch := (first | omega | (simp; done) | (simp; omega))) [impl_NameOk.l0, List.range_succ, bs_get, List.take_of_length_le, setAt, str_add, inSS, hi, hb, c1, c2]
        · by_cases c3 : 57 < b
          · simp (maxSteps := 1000000) (disch := (first | omega | (simp; done) | (simp; omega))) [impl_NameOk.l0, List.range_succ, bs_get, List.take_of_length_le, setAt, str_add, inSS, hi, hb, c1, c2, c3]
          · simp [c1, c2, c3] at c
      · by_cases c4 : 122 < b
        · have c2 : ¬ b < 48 := by omega
          have c3 : 57 < b := by omega
          simp (maxSteps := 1000000) (disch := (first | omega | (simp; done) | (simp; omega))) [impl_NameOk.l0, List.range_succ, bs_get, List.take_of_length_le, setAt, str_add, inSS, hi, hb, c1, c2, c3, c4]
        · simp [c1, c4] at c)
    (fun x => by simp (maxSteps := 1000000) (disch := (first | omega | (simp; done) | (simp; omega))) [impl_NameOk.l0, List.range_succ, bs_get, List.take_of_length_le, setAt, str_add, inSS, inSE])
  cases q : firstN (badSign l) l.length with
  | none =>
    simp [inSS, inSE, q, fin1] at hr
    simp (maxSteps := 1000000) (disch := (first | omega | (simp; done) | (simp; omega))) [exB, impl_NameOk.m, impl_NameOk.b, List.range_succ, bs_get, List.take_of_length_le, setAt, str_add, hr, nameOk, q, h1]
  | some k =>
    simp [inSS, q, fin1] at hr
    simp (maxSteps := 1000000) (disch := (first | omega | (simp; done) | (simp; omega))) [exB, impl_NameOk.m, impl_NameOk.b, List.range_succ, bs_get, List.take_of_length_le, setAt, str_add, hr, nameOk, q]

def snSS (l : List UInt8) (i : Nat) (x : Nat) : St := { t := [(0, .c (S l)), (3, .c (I i))], o := [], n := x }
def snSE (l : List UInt8) (x : Nat) : St := { t := [(0, .c (S l)), (3, .c (I l.length)), (7, .c (.bool false))], o := [], n := x }
theorem spec_NameOk.says (h : spec_NameOk.k M) (l : List UInt8) (hl : l.length ≤ 4611686018427387904) : run M 90 [.c (S l)] [] = some (.c (.bool (nameOk l)), []) := by
  have h1 := spec_l01In.inR h.2 l.length 1 12
  refine run_code (b := spec_NameOk.m) h.1 ⟨l.length + 1, ?_⟩
  obtain ⟨g, hr⟩ := early_loop (f := exC (run M) (l.length + 1) spec_NameOk.l0) l.length (badSign l) (snSS l) 2 (.bool false) 0 (snSE l)
    (fun i hi x c => by
      have e5 : IntKind.i64.wrap ((i : Int) + 1) = (i : Int) + 1 := wrap_i64 (by omega) (by omega)
      rw [badSign_at hi] at c
      generalize hb : ((l[i].toNat : Nat) : Int) = b at c
      by_cases c1 : b < 97
      · by_cases c2 : b < 48
        · simp [c1, c2] at c
        · by_cases c3 : 57 < b
          · simp [c1, c2, c3] at c
          · simp (maxSteps := 1000000) (disch := (first | omega | (simp; done) | (simp; omega))) [spec_NameOk.l0, List.range_succ, bs_get, List.take_of_length_le, setAt, str_add, snSS, hi, e5, hb, c1, c2, c3]
      · by_cases c4 : 122 < b
        · have c3 : 57 < b := by omega
          simp [c1, c4, c3] at c
        · simp (maxSteps := 1000000) (disch := (first | omega | (simp; done) | (simp; omega))) [spec_NameOk.l0, List.range_succ, bs_get, List.take_of_length_le, setAt, str_add, snSS, hi, e5, hb, c1, c4])
    (fun i hi x c => by
      rw [badSign_at hi] at c
      generalize hb : ((l[i].toNat : Nat) : Int) = b at c
      by_cases c1 : b < 97
      · by_cases c2 : b < 48
        · simp (maxSteps := 1000000) (disch := (first | omega | (simp; done) | (simp; omega))) [spec_NameOk.l0, List.range_succ, bs_get, List.take_of_length_le, setAt, str_add, snSS, hi, hb, c1, c2]
        · by_cases c3 : 57 < b
          · simp (maxSteps := 1000000) (disch := (first | omega | (simp; done) | (simp; omega))) [spec_NameOk.l0, List.range_succ, bs_get, List.take_of_length_le, setAt, str_add, snSS, hi, hb, c1, c2, c3]
          · simp [c1, c2, c3] at c
      · by_cases c4 : 122 < b
        · have c2 : ¬ b < 48 := by omega
          have c3 : 57 < b := by omega
          simp (maxSteps := 1000000) (disch := (first | omega | (simp; done) | (simp; omega))) [spec_NameOk.l0, List.range_succ, bs_get, List.take_of_length_le, setAt, str_add, snSS, hi, hb, c1, c2, c3, c4]
        · simp [c1, c4] at c)
    (fun x => by simp (maxSteps := 1000000) (disch := (first | omega | (simp; done) | (simp; omega))) [spec_NameOk.l0, List.range_succ, bs_get, List.take_of_length_le, setAt, str_add, snSS, snSE])
  cases q : firstN (badSign l) l.length with
  | none =>
    simp [snSS, snSE, q, fin1] at hr
    simp (maxSteps := 1000000) (disch := (first | omega | (simp; done) | (simp; omega))) [exB, spec_NameOk.m, spec_NameOk.b, List.range_succ, bs_get, List.take_of_length_le, setAt, str_add, hr, nameOk, q, h1]
  | some k =>
    simp [snSS, q, fin1] at hr
    simp (maxSteps := 1000000) (disch := (first | omega | (simp; done) | (simp; omega))) [exB, spec_NameOk.m, spec_NameOk.b, List.range_succ, bs_get, List.take_of_length_le, setAt, str_add, hr, nameOk, q]

def badGid (l : List Int) (i : Nat) : Bool := match l[i]? with
  | some g => !inR 1 g 9999 || (decide (0 < i) && match l[i - 1]? with | some f => decide (g ≤ f) | none => false)
  | none => false
theorem badGid_at {l : List Int} {i : Nat} (h : i < l.length) : badGid l i = (!inR 1 l[i] 9999 || (decide (0 < i) && decide (l[i] ≤ l[i - 1]))) := by
  simp [badGid, h, (show i - 1 < l.length by omega)]
def gidsOk (l : List Int) (most : Int) : Bool := (firstN (badGid l) l.length).isNone && decide ((l.length : Int) ≤ most)

def agS (l : List Int) (most : Int) (i : Nat) (x : Nat) : St := { t := [(0, .c (ints l)), (1, .c (I most)), (7, .c (ints l)), (8, .c (I l.length)), (9, .c (I i))], o := [], n := x }
def agE (l : List Int) (most : Int) (x : Nat) : St := { t := [(0, .c (ints l)), (1, .c (I most)), (7, .c (ints l)), (8, .c (I l.length)), (9, .c (I l.length)), (10, .c (.bool false))], o := [], n := x }
theorem impl_areGids.says (h : impl_areGids.k M) (l : List Int) (most : Int) (hl : l.length ≤ 4611686018427387904) : run M 165 [.c (ints l), .c (I most)] [] = some (.c (.bool (gidsOk l most)), []) := by
  refine run_code (b := impl_areGids.m) h.1 ⟨l.length + 1, ?_⟩
  obtain ⟨g, hr⟩ := early_loop (f := exC (run M) (l.length + 1) impl_areGids.l0) l.length (badGid l) (agS l most) 4 (.bool false) 0 (agE l most)
    (fun i hi x c => by
      have e5 : IntKind.i64.wrap ((i : Int) + 1) = (i : Int) + 1 := wrap_i64 (by omega) (by omega)
      have hm := impl_isGid.says h.2 l[i]
      rw [badGid_at hi] at c
      simp at c
      simp only [c.1] at hm
      by_cases c1 : 0 < i
      · have c2 : ¬ l[i] ≤ l[i - 1] := by have := c.2 c1; omega
        have e6 : IntKind.i64.wrap ((i : Int) - 1) = ((i - 1 : Nat) : Int) := by rw [wrap_i64 (by omega) (by omega)]; omega
        simp (maxSteps := 1000000) (disch := (first | omega | (simp; done) | (simp; omega))) [impl_areGids.l0, List.range_succ, bs_get, List.take_of_length_le, setAt, str_add, agS, hi, hm, c1, c2, e5, e6, (show i - 1 < l.length by omega)]
      · simp (maxSteps := 1000000) (disch := (first | omega | (simp; done) | (simp; omega))) [impl_areGids.l0, List.range_succ, bs_get, List.take_of_length_le, setAt, str_add, agS, hi, hm, c1, e5])
    (fun i hi x c => by
      have hm := impl_isGid.says h.2 l[i]
      rw [badGid_at hi] at c
      cases c1 : inR 1 l[i] 9999
      · simp only [c1] at hm
        simp (maxSteps := 1000000) (disch := (first | omega | (simp; done) | (simp; omega))) [impl_areGids.l0, List.range_succ, bs_get, List.take_of_length_le, setAt, str_add, agS, hi, hm]
      · simp [c1] at c
        obtain ⟨c2, c3⟩ := c
        simp only [c1] at hm
        have e6 : IntKind.i64.wrap ((i : Int) - 1) = ((i - 1 : Nat) : Int) := by rw [wrap_i64 (by omega) (by omega)]; omega
        simp (maxSteps := 1000000) (disch := (first | omega | (simp; done) | (simp; omega))) [impl_areGids.l0, List.range_succ, bs_get, List.take_of_length_le, setAt, str_add, agS, hi, hm, c2, c3, e6, (show i - 1 < l.length by omega)])
    (fun x => by simp (maxSteps := 1000000) (disch := (first | omega | (simp; done) | (simp; omega))) [impl_areGids.l0, List.range_succ, bs_get, List.take_of_length_le, setAt, str_add, agS, agE])
  cases q : firstN (badGid l) l.length with
  | none =>
    simp [agS, agE, q, fin1] at hr
    simp (maxSteps := 1000000) (disch := (first | omega | (simp; done) | (simp; omega))) [exB, impl_areGids.m, impl_areGids.b, List.range_succ, bs_get, List.take_of_length_le, setAt, str_add, hr, gidsOk, q]
  | some k =>
    simp [agS, q, fin1] at hr
    simp (maxSteps := 1000000) (disch := (first | omega | (simp; done) | (simp; omega))) [exB, impl_areGids.m, impl_areGids.b, List.range_succ, bs_get, List.take_of_length_le, setAt, str_add, hr, gidsOk, q]

def soS (l : List Int) (most : Int) (i : Nat) (x : Nat) : St := { t := [(0, .c (ints l)), (1, .c (I most)), (5, .c (I i))], o := [], n := x }
def soE (l : List Int) (most : Int) (x : Nat) : St := { t := [(0, .c (ints l)), (1, .c (I most)), (5, .c (I l.length)), (9, .c (.bool false))], o := [], n := x }
theorem spec_l06Sorted.says (h : spec_l06Sorted.k M) (l : List Int) (most : Int) (hl : l.length ≤ 4611686018427387904) : run M 186 [.c (ints l), .c (I most)] [] = some (.c (.bool (gidsOk l most)), []) := by
  refine run_code (b := spec_l06Sorted.m) h.1 ⟨l.length + 1, ?_⟩
  obtain ⟨g, hr⟩ := early_loop (f := exC (run M) (l.length + 1) spec_l06Sorted.l0) l.length (badGid l) (soS l most) 4 (.bool false) 0 (soE l most)
    (fun i hi x c => by
      have e5 : IntKind.i64.wrap ((i : Int) + 1) = (i : Int) + 1 := wrap_i64 (by omega) (by omega)
      have hm := spec_l01In.inR h.2 l[i] 1 9999
      rw [badGid_at hi] at c
      simp at c
      simp only [c.1] at hm
      by_cases c1 : 0 < i
      · have c2 : ¬ l[i] ≤ l[i - 1] := by have := c.2 c1; omega
        have e6 : IntKind.i64.wrap ((i : Int) - 1) = ((i - 1 : Nat) : Int) := by rw [wrap_i64 (by omega) (by omega)]; omega
        simp (maxSteps := 1000000) (disch := (first | omega | (simp; done) | (simp; omega))) [spec_l06Sorted.l0, List.range_succ, bs_get, List.take_of_length_le, setAt, str_add, soS, hi, hm, c1, c2, e5, e6, (show i - 1 < l.length by omega)]
      · simp (maxSteps := 1000000) (disch := (first | omega | (simp; done) | (simp; omega))) [spec_l06Sorted.l0, List.range_succ, bs_get, List.take_of_length_le, setAt, str_add, soS, hi, hm, c1, e5])
    (fun i hi x c => by
      have hm := spec_l01In.inR h.2 l[i] 1 9999
      rw [badGid_at hi] at c
      cases c1 : inR 1 l[i] 9999
      · simp only [c1] at hm
        simp (maxSteps := 1000000) (disch := (first | omega | (simp; done) | (simp; omega))) [spec_l06Sorted.l0, List.range_succ, bs_get, List.take_of_length_le, setAt, str_add, soS, hi, hm]
      · simp [c1] at c
        obtain ⟨c2, c3⟩ := c
        simp only [c1] at hm
        have e6 : IntKind.i64.wrap ((i : Int) - 1) = ((i - 1 : Nat) : Int) := by rw [wrap_i64 (by omega) (by omega)]; omega
        simp (maxSteps := 1000000) (disch := (first | omega | (simp; done) | (simp; omega))) [spec_l06Sorted.l0, List.range_succ, bs_get, List.take_of_length_le, setAt, str_add, soS, hi, hm, c2, c3, e6, (show i - 1 < l.length by omega)])
    (fun x => by simp (maxSteps := 1000000) (disch := (first | omega | (simp; done) | (simp; omega))) [spec_l06Sorted.l0, List.range_succ, bs_get, List.take_of_length_le, setAt, str_add, soS, soE])
  cases q : firstN (badGid l) l.length with
  | none =>
    simp [soS, soE, q, fin1] at hr
    simp (maxSteps := 1000000) (disch := (first | omega | (simp; done) | (simp; omega))) [exB, spec_l06Sorted.m, spec_l06Sorted.b, List.range_succ, bs_get, List.take_of_length_le, setAt, str_add, hr, gidsOk, q]
  | some k =>
    simp [soS, q, fin1] at hr
    simp (maxSteps := 1000000) (disch := (first | omega | (simp; done) | (simp; omega))) [exB, spec_l06Sorted.m, spec_l06Sorted.b, List.range_succ, bs_get, List.take_of_length_le, setAt, str_add, hr, gidsOk, q]

def isAt (l : List Int) (g : Int) (i : Nat) : Bool := match l[i]? with
  | some x => decide (x = g)
  | none => false
theorem isAt_at {l : List Int} {g : Int} {i : Nat} (h : i < l.length) : isAt l g i = decide (l[i] = g) := by simp [isAt, h]
theorem isAt_mem (l : List Int) (g : Int) : (firstN (isAt l g) l.length).isSome = decide (g ∈ l) := by
  rw [Bool.eq_iff_iff]
  simp only [decide_eq_true_eq]
  cases q : firstN (isAt l g) l.length with
  | none =>
    have := firstN_none q
    refine ⟨fun h => by simp at h, fun h => ?_⟩
    obtain ⟨i, hi, e⟩ := List.getElem_of_mem h
    have h1 := this i hi
    rw [isAt_at hi] at h1
    simp [e] at h1
  | some k =>
    obtain ⟨h1, h2, _⟩ := firstN_some q
    rw [isAt_at h1] at h2
    simp at h2
    refine ⟨fun _ => ?_, fun _ => rfl⟩
    rw [← h2]; exact List.getElem_mem h1
def siS (l : List Int) (g : Int) (i : Nat) (x : Nat) : St := { t := [(0, .c (ints l)), (1, .c (I g)), (5, .c (I i))], o := [], n := x }
def siE (l : List Int) (g : Int) (x : Nat) : St := { t := [(0, .c (ints l)), (1, .c (I g)), (5, .c (I l.length)), (9, .c (.bool false))], o := [], n := x }
theorem spec_l06In.says (h : spec_l06In.k M) (l : List Int) (g : Int) (hl : l.length ≤ 4611686018427387904) : run M 132 [.c (ints l), .c (I g)] [] = some (.c (.bool (decide (g ∈ l))), []) := by
  refine run_code (b := spec_l06In.m) h ⟨l.length + 1, ?_⟩
  obtain ⟨g', hr⟩ := early_loop (f := exC (run M) (l.length + 1) spec_l06In.l0) l.length (isAt l g) (siS l g) 4 (.bool true) 0 (siE l g)
    (fun i hi x c => by
      have e5 : IntKind.i64.wrap ((i : Int) + 1) = (i : Int) + 1 := wrap_i64 (by omega) (by omega)
      rw [isAt_at hi] at c
      simp at c
      simp (maxSteps := 1000000) (disch := (first | omega | (simp; done) | (simp; omega))) [spec_l06In.l0, List.range_succ, bs_get, List.take_of_length_le, setAt, str_add, siS, hi, e5, c])
    (fun i hi x c => by
      rw [isAt_at hi] at c
      simp at c
      simp (maxSteps := 1000000) (disch := (first | omega | (simp; done) | (simp; omega))) [spec_l06In.l0, List.range_succ, bs_get, List.take_of_length_le, setAt, str_add, siS, hi, c])
    (fun x => by simp (maxSteps := 1000000) (disch := (first | omega | (simp; done) | (simp; omega))) [spec_l06In.l0, List.range_succ, bs_get, List.take_of_length_le, setAt, str_add, siS, siE])
  have hm := isAt_mem l g
  rw [← hm]
  cases q : firstN (isAt l g) l.length with
  | none =>
    simp [siS, siE, q, fin1] at hr
    simp (maxSteps := 1000000) (disch := (first | omega | (simp; done) | (simp; omega))) [exB, spec_l06In.m, spec_l06In.b, List.range_succ, bs_get, List.take_of_length_le, setAt, str_add, hr]
  | some k =>
    simp [siS, q, fin1] at hr
    simp (maxSteps := 1000000) (disch := (first | omega | (simp; done) | (simp; omega))) [exB, spec_l06In.m, spec_l06In.b, List.range_succ, bs_get, List.take_of_length_le, setAt, str_add, hr]
def xiS (l : List Int) (g : Int) (i : Nat) (x : Nat) : St := { t := [(0, .c (ints l)), (1, .c (I g)), (7, .c (I l.length)), (8, .c (I i))], o := [], n := x }
theorem slices_Index_int_int.says (h : slices_Index_int_int.k M) (l : List Int) (g : Int) (hl : l.length ≤ 4611686018427387904) : run M 234 [.c (ints l), .c (I g)] [] = some (.c (I (intO (firstN (isAt l g) l.length))), []) := by
  refine run_code (b := slices_Index_int_int.m) h ⟨l.length + 1, ?_⟩
  obtain ⟨g', hr⟩ := first_loop (f := exC (run M) (l.length + 1) slices_Index_int_int.l0) l.length (isAt l g) (xiS l g) atFin atFin_ne
    (fun i hi x c => by
      have e5 : IntKind.i64.wrap ((i : Int) + 1) = (i : Int) + 1 := wrap_i64 (by omega) (by omega)
      rw [isAt_at hi] at c
      simp at c
      have c' : ¬ g = l[i] := fun q => c q.symm
      simp (maxSteps := 1000000) (disch := (first | omega | (simp; done) | (simp; omega))) [slices_Index_int_int.l0, List.range_succ, bs_get, List.take_of_length_le, setAt, str_add, xiS, hi, e5, c, c'])
    (fun i hi x c => by
      rw [isAt_at hi] at c
      simp at c
      simp (maxSteps := 1000000) (disch := (first | omega | (simp; done) | (simp; omega))) [slices_Index_int_int.l0, List.range_succ, bs_get, List.take_of_length_le, setAt, str_add, xiS, hi, c, atFin]
      exact ⟨⟨[], [], _⟩, rfl⟩)
    (fun x => by simp (maxSteps := 1000000) (disch := (first | omega | (simp; done) | (simp; omega))) [slices_Index_int_int.l0, List.range_succ, bs_get, List.take_of_length_le, setAt, str_add, xiS, atFin])
  cases q : firstN (isAt l g) l.length with
  | none =>
    simp [xiS, q, atFin] at hr
    simp (maxSteps := 1000000) (disch := (first | omega | (simp; done) | (simp; omega))) [exB, slices_Index_int_int.m, slices_Index_int_int.b, List.range_succ, bs_get, List.take_of_length_le, setAt, str_add, hr, intO]
  | some k =>
    simp [xiS, q, atFin] at hr
    simp (maxSteps := 1000000) (disch := (first | omega | (simp; done) | (simp; omega))) [exB, slices_Index_int_int.m, slices_Index_int_int.b, List.range_succ, bs_get, List.take_of_length_le, setAt, str_add, hr, intO]
theorem intO_pos (q : Option Nat) : decide (0 ≤ intO q) = q.isSome := by cases q <;> simp [intO]
theorem slices_Contains_int_int.says (h : slices_Contains_int_int.k M) (l : List Int) (g : Int) (hl : l.length ≤ 4611686018427387904) : run M 156 [.c (ints l), .c (I g)] [] = some (.c (.bool (decide (g ∈ l))), []) := by
  have h1 := slices_Index_int_int.says h.2 l g hl
  refine run_code (b := slices_Contains_int_int.m) h.1 ⟨0, ?_⟩
  rw [← isAt_mem l g, ← intO_pos]
  simp (maxSteps := 1000000) (disch := (first | omega | (simp; done) | (simp; omega))) [exB, slices_Contains_int_int.m, slices_Contains_int_int.b, List.range_succ, bs_get, List.take_of_length_le, setAt, str_add, h1]
end Mx

/-
  JoinGone on both sides, and its law.
-/
namespace Mx
open Go
variable {M : Nat → Option Body}
def guS (l : List Int) (x : Int) (i : Nat) (s : List Int) (m : Nat × Nat) : St := { t := [(0, .c (ints l)), (1, .c (I x)), (5, .c (.row 8 m.1 0 s.length)), (6, .c (I i))], o := [(8, ⟨m.1, 1, true, false, irow s⟩)], n := m.2 }
def guE (l : List Int) (x : Int) (s : List Int) (m : Nat × Nat) : St := { t := [(0, .c (ints l)), (1, .c (I x)), (5, .c (.row 8 m.1 0 s.length)), (6, .c (I l.length)), (12, .c (.bool false))], o := [(8, ⟨m.1, 1, true, false, irow s⟩)], n := m.2 }
def gvS (l : List Int) (x : Int) (i : Nat) (s : List Int) (m : Nat × Nat) : St := { t := [(0, .c (ints l)), (1, .c (I x)), (5, .c (.row 8 m.1 0 s.length)), (7, .c (I i))], o := [(8, ⟨m.1, 1, true, false, irow s⟩)], n := m.2 }
def gvE (l : List Int) (x : Int) (s : List Int) (m : Nat × Nat) : St := { t := [(0, .c (ints l)), (1, .c (I x)), (5, .c (.row 8 m.1 0 s.length)), (7, .c (I l.length)), (35, .c (.bool false))], o := [(8, ⟨m.1, 1, true, false, irow s⟩)], n := m.2 }
theorem filter_fold (p : Int → Bool) : ∀ (l s : List Int), l.foldl (fun s a => if p a = true then s ++ [a] else s) s = s ++ l.filter p
  | [], s => by simp
  | a :: l, s => by
    rw [List.foldl_cons, filter_fold p l, List.filter_cons]
    by_cases h : p a = true <;> simp [h]
theorem irow_snoc (s : List Int) (a : Int) : irow (s ++ [a]) = irow s ++ [[I a]] := by simp [irow]
theorem irow_length (s : List Int) : (irow s).length = s.length := by simp [irow]
theorem spec_l06Put.says (h : spec_l06Put.k M) (l : List Int) (x : Int) (hl : l.length ≤ 16777216) : run M 133 [.c (ints l), .c (I x)] [] = some (.c (.sl true 1 (irow (gput l x))), []) := by
  refine run_code (b := spec_l06Put.m) h ⟨l.length + 1, ?_⟩
  obtain ⟨g, hr⟩ := fold_loop (f := exC (run M) (l.length + 1) spec_l06Put.l0) l (fun s a => if decide (a < x) = true then s ++ [a] else s) (fun i s => s.length ≤ i) (guS l x) 0 (guE l x)
    (fun i h s hs => by split <;> (try simp) <;> omega)
    (fun i hi s m hs => by
      obtain ⟨v, m⟩ := m
      have e5 : IntKind.i64.wrap ((i : Int) + 1) = (i : Int) + 1 := wrap_i64 (by omega) (by omega)
      have e6 : s.length + 1 ≤ 4294967296 := by omega
      have e9 := irow_length s
      simp only [Prod.exists]
      by_cases c : l[i] < x
      · simp only [c, decide_true, if_true, guS, irow_snoc]
        generalize irow s = rr at *
        simp (maxSteps := 1000000) [spec_l06Put.l0, List.range_succ, bs_get, setAt, hi, c, e5, e6, e9, List.take_of_length_le]
      · simp only [c, decide_false, Bool.false_eq_true, if_false]
        simp (maxSteps := 1000000) [spec_l06Put.l0, List.range_succ, bs_get, setAt, guS, hi, c, e5])
    (fun s m hs => by
      obtain ⟨v, m⟩ := m
      simp only [Prod.exists]
      simp (maxSteps := 1000000) [spec_l06Put.l0, List.range_succ, bs_get, setAt, guS, guE]) [] (by simp)
  obtain ⟨g', hr'⟩ := fold_loop (f := exC (run M) (l.length + 1) spec_l06Put.l1) l (fun s a => if decide (x < a) = true then s ++ [a] else s) (fun i s => s.length ≤ l.length + 1 + i) (gvS l x) 2 (gvE l x)
    (fun i h s hs => by split <;> (try simp) <;> omega)
    (fun i hi s m hs => by
      obtain ⟨v, m⟩ := m
      have e5 : IntKind.i64.wrap ((i : Int) + 1) = (i : Int) + 1 := wrap_i64 (by omega) (by omega)
      have e6 : s.length + 1 ≤ 4294967296 := by omega
      have e9 := irow_length s
      simp only [Prod.exists]
      by_cases c : x < l[i]
      · simp only [c, decide_true, if_true, gvS, irow_snoc]
        generalize irow s = rr at *
        simp (maxSteps := 1000000) [spec_l06Put.l1, List.range_succ, bs_get, setAt, hi, c, e5, e6, e9, List.take_of_length_le]
      · simp only [c, decide_false, Bool.false_eq_true, if_false]
        simp (maxSteps := 1000000) [spec_l06Put.l1, List.range_succ, bs_get, setAt, gvS, hi, c, e5])
    (fun s m hs => by
      obtain ⟨v, m⟩ := m
      simp only [Prod.exists]
      simp (maxSteps := 1000000) [spec_l06Put.l1, List.range_succ, bs_get, setAt, gvS, gvE]) (l.filter (fun y => decide (y < x)) ++ [x]) (by have := List.length_filter_le (fun y => decide (y < x)) l; simp; omega)
  rw [filter_fold] at hr hr'
  have hfl := List.length_filter_le (fun y => decide (y < x)) l
  have e6 : (l.filter (fun y => decide (y < x))).length + 1 ≤ 4294967296 := by omega
  have e9 := irow_length (l.filter (fun y => decide (y < x)))
  have e10 := irow_length (l.filter (fun y => decide (y < x)) ++ [x] ++ l.filter (fun y => decide (x < y)))
  have e11 : (l.filter (fun y => decide (y < x)) ++ [x] ++ l.filter (fun y => decide (x < y))).length = (l.filter (fun y => decide (y < x))).length + ((l.filter (fun y => decide (x < y))).length + 1) := by simp only [List.length_append, List.length_singleton]; omega
  rw [e11] at e10
  have e12 := irow_snoc (l.filter (fun y => decide (y < x))) x
  unfold gput
  simp only [List.nil_append] at hr
  simp only [guS, guE, List.length_nil, e11] at hr
  simp only [gvS, gvE, e12, e11, List.length_append, List.length_singleton] at hr'
  generalize irow (l.filter (fun y => decide (y < x)) ++ [x] ++ l.filter (fun y => decide (x < y))) = r2 at *
  generalize irow (l.filter (fun y => decide (y < x))) = r1 at *
  simp [irow] at hr
  simp at hr'
  simp (maxSteps := 1000000) [exB, spec_l06Put.m, spec_l06Put.b, List.range_succ, bs_get, setAt, hr, hr', e6, e9, e10, List.take_of_length_le, irow]
/-! ## one list after the other -/
structure GX where
  w : Nat
  v8 : Nat
  v1 : Nat
  v2 : Nat
  r8 : List (List T)
  r1 : List (List T)
  n : Nat
def gO0 (s : List Int) (x : GX) : List (Nat × Ob) := match x.w with
  | 0 => [(8, ⟨x.v8, 1, true, false, irow s⟩)]
  | _ => [(8, ⟨x.v8, 1, true, false, x.r8⟩), (12700, ⟨x.v1, 1, true, false, irow s⟩)]
def gR0 (s : List Int) (x : GX) : T := match x.w with
  | 0 => .row 8 x.v8 0 s.length
  | _ => .row 12700 x.v1 0 s.length
def gO (s : List Int) (x : GX) : List (Nat × Ob) := match x.w with
  | 0 => [(8, ⟨x.v8, 1, true, false, irow s⟩)]
  | 1 => [(8, ⟨x.v8, 1, true, false, x.r8⟩), (12700, ⟨x.v1, 1, true, false, irow s⟩)]
  | 2 => [(8, ⟨x.v8, 1, true, false, x.r8⟩), (14600, ⟨x.v2, 1, true, false, irow s⟩)]
  | _ => [(8, ⟨x.v8, 1, true, false, x.r8⟩), (12700, ⟨x.v1, 1, true, false, x.r1⟩), (14600, ⟨x.v2, 1, true, false, irow s⟩)]
def gR (s : List Int) (x : GX) : T := match x.w with
  | 0 => .row 8 x.v8 0 s.length
  | 1 => .row 12700 x.v1 0 s.length
  | _ => .row 14600 x.v2 0 s.length
theorem GX.of {p : GX → Prop} (w r8 r1) (h : ∃ v8 v1 v2 n, p ⟨w, v8, v1, v2, r8, r1, n⟩) : ∃ x, p x := by
  obtain ⟨v8, v1, v2, n, h⟩ := h; exact ⟨_, h⟩
def gjS (a b : List Int) (i : Nat) (s : List Int) (x : GX) : St := { t := [(0, .c (ints a)), (1, .c (ints b)), (5, .c (gR0 s x)), (6, .c (I i))], o := gO0 s x, n := x.n }
def gjE (a b : List Int) (s : List Int) (x : GX) : St := { t := [(0, .c (ints a)), (1, .c (ints b)), (5, .c (gR0 s x)), (6, .c (I a.length)), (12, .c (.bool false))], o := gO0 s x, n := x.n }
def gkS (b : List Int) (i : Nat) (s : List Int) (x : GX) : St := { t := [(1, .c (ints b)), (5, .c (gR s x)), (7, .c (I i))], o := gO s x, n := x.n }
def gkE (b : List Int) (s : List Int) (x : GX) : St := { t := [(1, .c (ints b)), (5, .c (gR s x)), (7, .c (I b.length)), (31, .c (.bool false))], o := gO s x, n := x.n }
theorem irow_scalar (l : List Int) : (irow l).all (fun r => r.all T.scalar) = true := by simp [irow, T.scalar]
theorem spec_JoinGone.turn0 (k1 : spec_l06In.k M) (k2 : spec_l06Put.k M) (a b : List Int) (K i : Nat) (hi : i < a.length) (ha : a.length ≤ 1048576) (s : List Int) (hs : s.length ≤ i) (x : GX) :
    ∃ y, exC (run M) K spec_JoinGone.l0 (gjS a b i s x) = some (.normal, gjS a b (i + 1) (gadd s a[i]) y) := by
  have h1 := spec_l06In.says k1 s a[i] (by omega)
  have h2 := spec_l06Put.says k2 s a[i] (by omega)
  have e5 : IntKind.i64.wrap ((i : Int) + 1) = (i : Int) + 1 := wrap_i64 (by omega) (by omega)
  have e9 := irow_length s
  have e10 := irow_length (gput s a[i])
  have hfl := irow_scalar (gput s a[i])
  simp only [ints] at h1 h2
  obtain ⟨w, v8, v1, v2, r8, r1, n⟩ := x
  unfold gadd
  by_cases c : a[i] ∈ s
  · rw [if_pos c]
    rw [decide_eq_true c] at h1
    refine GX.of w r8 r1 ?_
    match w with
    | 0 => simp only [gjS, gO0, gR0]; generalize irow s = rr at *; simp (maxSteps := 1000000) [spec_JoinGone.l0, List.range_succ, bs_get, setAt, hi, h1, e5, e9, List.take_of_length_le]
    | w + 1 => simp only [gjS, gO0, gR0]; generalize irow s = rr at *; simp (maxSteps := 1000000) [spec_JoinGone.l0, List.range_succ, bs_get, setAt, hi, h1, e5, e9, List.take_of_length_le]
  · rw [if_neg c]
    rw [decide_eq_false c] at h1
    match w with
    | 0 =>
      refine GX.of 1 (irow s) r1 ?_
      simp only [gjS, gO0, gR0]; generalize irow (gput s a[i]) = r2 at *; generalize irow s = rr at *; simp (maxSteps := 1000000) [spec_JoinGone.l0, List.range_succ, bs_get, setAt, hi, h1, h2, e5, e9, e10, hfl, List.take_of_length_le]
    | w + 1 =>
      refine GX.of 1 r8 r1 ?_
      simp only [gjS, gO0, gR0]; generalize irow (gput s a[i]) = r2 at *; generalize irow s = rr at *; simp (maxSteps := 1000000) [spec_JoinGone.l0, List.range_succ, bs_get, setAt, hi, h1, h2, e5, e9, e10, hfl, List.take_of_length_le]
theorem spec_JoinGone.turn1 (k1 : spec_l06In.k M) (k2 : spec_l06Put.k M) (b : List Int) (K i : Nat) (hi : i < b.length) (hb : b.length ≤ 1048576) (s : List Int) (hs : s.length ≤ 1048576 + i) (x : GX) :
    ∃ y, exC (run M) K spec_JoinGone.l1 (gkS b i s x) = some (.normal, gkS b (i + 1) (gadd s b[i]) y) := by
  have h1 := spec_l06In.says k1 s b[i] (by omega)
  have h2 := spec_l06Put.says k2 s b[i] (by omega)
  have e5 : IntKind.i64.wrap ((i : Int) + 1) = (i : Int) + 1 := wrap_i64 (by omega) (by omega)
  have e9 := irow_length s
  have e10 := irow_length (gput s b[i])
  have hfl := irow_scalar (gput s b[i])
  simp only [ints] at h1 h2
  obtain ⟨w, v8, v1, v2, r8, r1, n⟩ := x
  unfold gadd
  by_cases c : b[i] ∈ s
  · rw [if_pos c]
    rw [decide_eq_true c] at h1
    refine GX.of w r8 r1 ?_
    match w with
    | 0 => simp only [gkS, gO, gR]; generalize irow s = rr at *; simp (maxSteps := 1000000) [spec_JoinGone.l1, List.range_succ, bs_get, setAt, hi, h1, e5, e9, List.take_of_length_le]
    | 1 => simp only [gkS, gO, gR]; generalize irow s = rr at *; simp (maxSteps := 1000000) [spec_JoinGone.l1, List.range_succ, bs_get, setAt, hi, h1, e5, e9, List.take_of_length_le]
    | 2 => simp only [gkS, gO, gR]; generalize irow s = rr at *; simp (maxSteps := 1000000) [spec_JoinGone.l1, List.range_succ, bs_get, setAt, hi, h1, e5, e9, List.take_of_length_le]
    | w + 3 => simp only [gkS, gO, gR]; generalize irow s = rr at *; simp (maxSteps := 1000000) [spec_JoinGone.l1, List.range_succ, bs_get, setAt, hi, h1, e5, e9, List.take_of_length_le]
  · rw [if_neg c]
    rw [decide_eq_false c] at h1
    match w with
    | 0 =>
      refine GX.of 2 (irow s) r1 ?_
      simp only [gkS, gO, gR]; generalize irow (gput s b[i]) = r2 at *; generalize irow s = rr at *; simp (maxSteps := 1000000) [spec_JoinGone.l1, List.range_succ, bs_get, setAt, hi, h1, h2, e5, e9, e10, hfl, List.take_of_length_le]
    | 1 =>
      refine GX.of 3 r8 (irow s) ?_
      simp only [gkS, gO, gR]; generalize irow (gput s b[i]) = r2 at *; generalize irow s = rr at *; simp (maxSteps := 1000000) [spec_JoinGone.l1, List.range_succ, bs_get, setAt, hi, h1, h2, e5, e9, e10, hfl, List.take_of_length_le]
    | 2 =>
      refine GX.of 2 r8 r1 ?_
      simp only [gkS, gO, gR]; generalize irow (gput s b[i]) = r2 at *; generalize irow s = rr at *; simp (maxSteps := 1000000) [spec_JoinGone.l1, List.range_succ, bs_get, setAt, hi, h1, h2, e5, e9, e10, hfl, List.take_of_length_le]
    | w + 3 =>
      refine GX.of 3 r8 r1 ?_
      simp only [gkS, gO, gR]; generalize irow (gput s b[i]) = r2 at *; generalize irow s = rr at *; simp (maxSteps := 1000000) [spec_JoinGone.l1, List.range_succ, bs_get, setAt, hi, h1, h2, e5, e9, e10, hfl, List.take_of_length_le]
theorem spec_JoinGone.says (h : spec_JoinGone.k M) (a b : List Int) (ha : a.length ≤ 1048576) (hb : b.length ≤ 1048576) : run M 43 [.c (ints a), .c (ints b)] [] = some (.c (.sl true 1 (irow (joinGone a b))), []) := by
  obtain ⟨h0, k1, k2⟩ := h
  refine run_code (b := spec_JoinGone.m) h0 ⟨a.length + b.length + 1, ?_⟩
  obtain ⟨g, hr⟩ := fold_loop (f := exC (run M) (a.length + b.length + 1) spec_JoinGone.l0) a gadd (fun i s => s.length ≤ i) (gjS a b) 0 (gjE a b)
    (fun i h s hs => by have := gadd_len s a[i]; omega)
    (fun i hi s x hs => spec_JoinGone.turn0 k1 k2 a b _ i hi ha s hs x)
    (fun s x hs => by
      obtain ⟨w, v8, v1, v2, r8, r1, n⟩ := x
      refine GX.of w r8 r1 ?_
      match w with
      | 0 => simp only [gjS, gjE, gO0, gR0]; simp (maxSteps := 1000000) [spec_JoinGone.l0, List.range_succ, bs_get, setAt]
      | w + 1 => simp only [gjS, gjE, gO0, gR0]; simp (maxSteps := 1000000) [spec_JoinGone.l0, List.range_succ, bs_get, setAt]) [] (by simp)
  have hla := gfold_len a []
  obtain ⟨g', hr'⟩ := fold_loop (f := exC (run M) (a.length + b.length + 1) spec_JoinGone.l1) b gadd (fun i s => s.length ≤ 1048576 + i) (gkS b) 2 (gkE b)
    (fun i h s hs => by have := gadd_len s b[i]; omega)
    (fun i hi s x hs => spec_JoinGone.turn1 k1 k2 b _ i hi hb s hs x)
    (fun s x hs => by
      obtain ⟨w, v8, v1, v2, r8, r1, n⟩ := x
      refine GX.of w r8 r1 ?_
      match w with
      | 0 => simp only [gkS, gkE, gO, gR]; simp (maxSteps := 1000000) [spec_JoinGone.l1, List.range_succ, bs_get, setAt]
      | 1 => simp only [gkS, gkE, gO, gR]; simp (maxSteps := 1000000) [spec_JoinGone.l1, List.range_succ, bs_get, setAt]
      | 2 => simp only [gkS, gkE, gO, gR]; simp (maxSteps := 1000000) [spec_JoinGone.l1, List.range_succ, bs_get, setAt]
      | w + 3 => simp only [gkS, gkE, gO, gR]; simp (maxSteps := 1000000) [spec_JoinGone.l1, List.range_succ, bs_get, setAt]) (a.foldl gadd []) (by simp at hla ⊢; omega)
  have hr2 := fun x => loopN_le (hr x) (show a.length + 1 ≤ a.length + b.length + 1 by omega)
  have hr3 := fun x => loopN_le (hr' x) (show b.length + 1 ≤ a.length + b.length + 1 by omega)
  have hj : b.foldl gadd (a.foldl gadd []) = joinGone a b := by rw [joinGone, List.foldl_append]
  rw [hj] at hr3
  have e9 := irow_length (joinGone a b)
  generalize joinGone a b = j at *
  generalize a.foldl gadd [] = s at *
  have hr4 : ∀ y : GX, ∃ z : GX, loopN (exC (run M) (a.length + b.length + 1) spec_JoinGone.l1) (a.length + b.length + 1) (gkS b 0 s y) = some (.exit 2, gkE b j z) := fun y => ⟨_, hr3 y⟩
  have hq := hr2 ⟨0, 2000016, 0, 0, [], [], 2000064⟩
  generalize g ⟨0, 2000016, 0, 0, [], [], 2000064⟩ = y at hq
  clear hr hr2 hr' hr3
  obtain ⟨w, v8, v1, v2, r8, r1, n⟩ := y
  match w with
  | 0 =>
    obtain ⟨⟨w', u8, u1, u2, q8, q1, m⟩, hz⟩ := hr4 ⟨0, v8, v1, v2, r8, r1, n + 16⟩
    simp [gjS, gjE, gO0, gR0, irow] at hq
    match w' with
    | 0 => simp [gkS, gkE, gO, gR, irow] at hz; simp only [irow] at e9 ⊢; simp (maxSteps := 1000000) [exB, spec_JoinGone.m, spec_JoinGone.b, List.range_succ, bs_get, setAt, hq, hz, e9, List.take_of_length_le]
    | 1 => simp [gkS, gkE, gO, gR, irow] at hz; simp only [irow] at e9 ⊢; simp (maxSteps := 1000000) [exB, spec_JoinGone.m, spec_JoinGone.b, List.range_succ, bs_get, setAt, hq, hz, e9, List.take_of_length_le]
    | 2 => simp [gkS, gkE, gO, gR, irow] at hz; simp only [irow] at e9 ⊢; simp (maxSteps := 1000000) [exB, spec_JoinGone.m, spec_JoinGone.b, List.range_succ, bs_get, setAt, hq, hz, e9, List.take_of_length_le]
    | w' + 3 => simp [gkS, gkE, gO, gR, irow] at hz; simp only [irow] at e9 ⊢; simp (maxSteps := 1000000) [exB, spec_JoinGone.m, spec_JoinGone.b, List.range_succ, bs_get, setAt, hq, hz, e9, List.take_of_length_le]
  | w + 1 =>
    obtain ⟨⟨w', u8, u1, u2, q8, q1, m⟩, hz⟩ := hr4 ⟨1, v8, v1, v2, r8, r1, n + 16⟩
    simp [gjS, gjE, gO0, gR0, irow] at hq
    match w' with
    | 0 => simp [gkS, gkE, gO, gR, irow] at hz; simp only [irow] at e9 ⊢; simp (maxSteps := 1000000) [exB, spec_JoinGone.m, spec_JoinGone.b, List.range_succ, bs_get, setAt, hq, hz, e9, List.take_of_length_le]
    | 1 => simp [gkS, gkE, gO, gR, irow] at hz; simp only [irow] at e9 ⊢; simp (maxSteps := 1000000) [exB, spec_JoinGone.m, spec_JoinGone.b, List.range_succ, bs_get, setAt, hq, hz, e9, List.take_of_length_le]
    | 2 => simp [gkS, gkE, gO, gR, irow] at hz; simp only [irow] at e9 ⊢; simp (maxSteps := 1000000) [exB, spec_JoinGone.m, spec_JoinGone.b, List.range_succ, bs_get, setAt, hq, hz, e9, List.take_of_length_le]
    | w' + 3 => simp [gkS, gkE, gO, gR, irow] at hz; simp only [irow] at e9 ⊢; simp (maxSteps := 1000000) [exB, spec_JoinGone.m, spec_JoinGone.b, List.range_succ, bs_get, setAt, hq, hz, e9, List.take_of_length_le]
theorem run_sort (h : M 135 = some (.ext sortG)) (zs : List Int) (hz : zs.length ≤ 4294967296) : run M 135 [.c (.row 0 0 0 zs.length)] [(0, ⟨0, 1, true, false, irow zs⟩)] = some (.tup [], [(0, ⟨0, 1, true, false, irow (sortI zs)⟩)]) := by
  refine run_ext h ?_
  simp [sortG, lentInts, rowsInts_irow, hz]
theorem run_compact (h : M 136 = some (.ext compactG)) (zs : List Int) (hz : zs.length ≤ 4294967296) :
    run M 136 [.c (.row 0 0 0 zs.length)] [(0, ⟨0, 1, true, false, irow zs⟩)] = some (.c (.row 0 0 0 (Lib.compact zs).length), [(0, ⟨0, 1, true, false, irow (Lib.compact zs ++ List.replicate (zs.length - (Lib.compact zs).length) 0)⟩)]) := by
  refine run_ext h ?_
  simp [compactG, lentInts, rowsInts_irow, hz]
theorem impl_JoinGone.says (h : impl_JoinGone.k M) (a b : List Int) (ha : a.length ≤ 1048576) (hb : b.length ≤ 1048576) : run M 44 [.c (ints a), .c (ints b)] [] = some (.c (.sl true 1 (irow (joinGone a b))), []) := by
  obtain ⟨h0, k1, k2, k3⟩ := h
  have h1 := impl_copyInts.says k1 a ha
  have hab : (a ++ b).length ≤ 4294967296 := by simp; omega
  have h2 := run_sort k2 (a ++ b) hab
  have hsl : (sortI (a ++ b)).length = (a ++ b).length := by simp [sortI]
  have h3 := run_compact k3 (sortI (a ++ b)) (by rw [hsl]; exact hab)
  rw [joinGone_sort] at h3
  have hjl : (joinGone a b).length ≤ (a ++ b).length := by
    have := gfold_len (a ++ b) []; simp only [joinGone]; simpa using this
  refine run_code (b := impl_JoinGone.m) h0 ⟨0, ?_⟩
  rw [hsl] at h3
  have e1 : irow (a ++ b) = irow a ++ irow b := by simp [irow]
  have e2 : irow (joinGone a b ++ List.replicate ((a ++ b).length - (joinGone a b).length) 0) = irow (joinGone a b) ++ irow (List.replicate ((a ++ b).length - (joinGone a b).length) 0) := by simp [irow]
  rw [e1] at h2
  rw [e2] at h3
  simp only [List.length_append] at h2 h3 hab hjl
  have l1 := irow_length a
  have l2 := irow_length b
  have l3 := irow_length (joinGone a b)
  have l4 : (irow (List.replicate (a.length + b.length - (joinGone a b).length) 0)).length = a.length + b.length - (joinGone a b).length := by simp [irow]
  have s1 := irow_scalar (sortI (a ++ b))
  have s2 := irow_scalar (joinGone a b)
  have l5 := irow_length (sortI (a ++ b))
  rw [hsl] at l5
  simp only [List.length_append] at l5
  simp only [ints] at h1 ⊢
  generalize irow (List.replicate (a.length + b.length - (joinGone a b).length) 0) = rz at *
  generalize irow (sortI (a ++ b)) = rs at *
  generalize joinGone a b = j at *
  generalize irow j = rj at *
  have e5 : a.length ≤ 4294967296 := by omega
  have e6 : j.length ≤ rj.length + rz.length := by omega
  generalize irow a = ra at *
  generalize irow b = rb at *
  simp (maxSteps := 1000000) [exB, impl_JoinGone.m, impl_JoinGone.b, List.range_succ, bs_get, setAt, h1, h2, h3, hab, l1, l2, l3, l4, l5, e5, List.take_of_length_le]
set_option maxHeartbeats 1000000 in
theorem laws_FnExactJoinGone.says (h : laws_FnExactJoinGone.k M) (a b : List Int) (ha : a.length ≤ maxLen) (hb : b.length ≤ maxLen) : run M 369 [.c (ints a), .c (ints b)] [] = some (.c (.bool true), []) := by
  obtain ⟨h0, k1, k2, k3, k4, k5, k6⟩ := h
  refine run_code (b := laws_FnExactJoinGone.m) h0 ⟨0, ?_⟩
  have hm : maxLen = 9223372036854775807 := rfl
  by_cases c1 : (1048576 : Int) < a.length
  · simp (maxSteps := 1000000) [exB, laws_FnExactJoinGone.m, laws_FnExactJoinGone.b, List.range_succ, bs_get, setAt, c1]
  by_cases c2 : (1048576 : Int) < b.length
  · simp (maxSteps := 1000000) [exB, laws_FnExactJoinGone.m, laws_FnExactJoinGone.b, List.range_succ, bs_get, setAt, c1, c2]
  have hjl : (joinGone a b).length ≤ a.length + b.length := by
    have := gfold_len (a ++ b) []; simp only [joinGone]; simpa using this
  have h1 := laws_toIntS.says k1 a (by omega)
  have h2 := laws_toIntS.says k1 b (by omega)
  have h3 := spec_JoinGone.says k2 a b (by omega) (by omega)
  have h4 := impl_JoinGone.says k3 a b (by omega) (by omega)
  generalize joinGone a b = j at *
  have h5 := laws_eqIntS.says k4 a (by omega)
  have h6 := laws_eqIntS.says k4 b (by omega)
  have h7 := laws_eqIntS.says k4 j (by omega)
  have h8 := laws_markIntS.says k5 a 1 (by omega) (by omega) (by omega)
  have h9 := laws_markIntS.says k5 b (1 + a.length) (by omega) (by omega) (by omega)
  have h10 := laws_markIntS.says k5 j 1 (by omega) (by omega) (by omega)
  have h11 := laws_heldIntS.says k6 j.length 1 (by omega) (by omega) (by omega)
  have e1 : ¬ 1 + (a.length : Int) + b.length < 0 := by omega
  have e2 : ¬ 1 + (j.length : Int) < 0 := by omega
  have l1 := irow_length a
  have l2 := irow_length b
  have l3 := irow_length j
  have s1 := irow_scalar a
  have s2 := irow_scalar b
  have s3 := irow_scalar j
  have l4 : (irow (upto 1 j.length)).length = j.length := by rw [irow_length]; simp [upto]
  simp only [ints] at *
  simp (maxSteps := 1000000) [exB, laws_FnExactJoinGone.m, laws_FnExactJoinGone.b, List.range_succ, bs_get, setAt, c1, c2, h1, h2, h3, h4, h5, h6, h7, h8, h9, h10, h11, e1, e2, l1, l2, l3, l4, s1, s2, s3, List.take_of_length_le]
theorem laws_FnExactJoinGone.row (h : laws_FnExactJoinGone.k M) {as : List V} (ha : HasVs [.cell (.sl [.int .i64]), .cell (.sl [.int .i64])] as) : run M 369 as [] = some (.c (.bool true), []) := by
  cases ha with | cons h0 ha =>
  cases ha with | cons h1 ha =>
  cases ha
  cases h0 with | cell h0 =>
  cases h1 with | cell h1 =>
  have key : ∀ {t : T}, Has (.sl [.int .i64]) t → ∃ l : List Int, t = ints l ∧ l.length ≤ maxLen := by
    intro t ht
    obtain ⟨l, rfl, hl, _⟩ := has_list (fun n : Int => [I n]) (fun _ => True) (fun r hr => by
      match r, hr with
      | [a], hr => obtain ⟨n, rfl⟩ := has_int (hr.2 0 _ a rfl rfl); exact ⟨n, rfl, trivial⟩) ht
    exact ⟨l, rfl, hl⟩
  obtain ⟨a, rfl, ha⟩ := key h0
  obtain ⟨b, rfl, hb⟩ := key h1
  exact laws_FnExactJoinGone.says h a b ha hb
end Mx

/-
  What are flags.
-/
namespace Mx
open Go
variable {M : Nat → Option Body}
theorem impl_isFlags.says (h : impl_isFlags.k M) (n : Int) : run M 148 [.c (I n)] [] = some (.c (.bool (inR 0 n 7)), []) := by
  have h1 := impl_within.inR h.2 n 0 7
  refine run_code (b := impl_isFlags.m) h.1 ⟨0, ?_⟩
  simp (maxSteps := 1000000) [exB, impl_isFlags.m, impl_isFlags.b, List.range_succ, bs_get, setAt, h1]
end Mx

/-
  Small codes: slices.IndexFunc[[]impl.Box,impl.Box], impl.BoxNamed$1, impl.BoxNamed, impl.isLate, impl.StoreOk, spec.BoxNamed, spec.l07Times, spec.StoreOk.
-/
namespace Mx
open Go
def slices_IndexFunc_impl_Box_impl_Box.l0 : C := .seq (.reg [⟨some 9, .bin .lss (.t 8) (.t 7), none⟩] [0, 1, 7, 8, 9] [])
  (.seq (.cond (.t 9) (.skip) (.exit 0))
  (.seq (.block 1 (.seq (.reg [⟨some 10, .mv (.t 8), none⟩,
    ⟨some 5, .mv (.t 10), none⟩] [0, 1, 5, 7, 8] [])
  (.seq (.reg [⟨some 11, .mv (.t 1), none⟩,
    ⟨some 12, .mv (.t 0), none⟩,
    ⟨some 13, .mv (.t 5), none⟩,
    ⟨some 14, .iaddr 7 (.t 12) (.t 13), none⟩,
    ⟨some 15, .load true 7 (.t 14), none⟩,
    ⟨some 16, .callv (.t 11) [.t 15], none⟩] [0, 1, 5, 7, 8, 16] [])
  (.cond (.t 16) (.seq (.reg [⟨some 17, .mv (.t 5), none⟩,
    ⟨some 4, .mv (.t 17), none⟩] [4] [])
  (.ret)) (.skip)))))
  (.reg [⟨some 18, .bin .add (.t 8) (.k (.int .i64 1)), none⟩,
    ⟨some 8, .mv (.t 18), none⟩] [0, 1, 7, 8] [])))
def slices_IndexFunc_impl_Box_impl_Box.b : C := .seq (.reg [⟨some 4, .mv (.k (.int .i64 0)), none⟩] [0, 1] [])
  (.seq (.seq (.reg [⟨some 6, .mv (.t 0), none⟩,
    ⟨some 7, .len (.t 6), none⟩,
    ⟨some 8, .mv (.k (.int .i64 0)), none⟩] [0, 1, 7, 8] [])
  (.block 0 (.loop slices_IndexFunc_impl_Box_impl_Box.l0)))
  (.seq (.reg [⟨some 4, .mv (.k (.int .i64 (-1))), none⟩] [4] [])
  (.ret)))
def slices_IndexFunc_impl_Box_impl_Box.m : Fn := { np := 2, body := slices_IndexFunc_impl_Box_impl_Box.b, res := [.tmp 4] }
def slices_IndexFunc_impl_Box_impl_Box.k (M : Nat → Option Body) : Prop := M 200 = some (.code slices_IndexFunc_impl_Box_impl_Box.m)
def impl_BoxNamed_1.b : C := .seq (.reg [⟨some 2, .box (.t 0), none⟩,
    ⟨some 3, .mv (.k (.bool false)), none⟩] [1, 2] [2])
  (.seq (.reg [⟨some 4, .faddr 1 (.t 2), none⟩,
    ⟨some 5, .load false 1 (.t 4), none⟩,
    ⟨some 6, .load false 1 (.t 1), none⟩,
    ⟨some 7, .bin .eql (.t 5) (.t 6), none⟩,
    ⟨some 3, .mv (.t 7), none⟩] [3] [])
  (.ret))
def impl_BoxNamed_1.m : Fn := { np := 2, body := impl_BoxNamed_1.b, res := [.tmp 3] }
def impl_BoxNamed_1.k (M : Nat → Option Body) : Prop := M 271 = some (.code impl_BoxNamed_1.m)
def impl_BoxNamed.b : C := .seq (.reg [⟨some 2, .box (.t 0), none⟩,
    ⟨some 3, .box (.t 1), none⟩,
    ⟨some 4, .mv (.k (.int .i64 0)), none⟩] [2, 3] [2, 3])
  (.seq (.reg [⟨some 5, .faddr 2 (.t 2), none⟩,
    ⟨some 6, .load false 1 (.t 5), none⟩,
    ⟨some 7, .mkfn 271 [.t 3], none⟩,
    ⟨some 8, .call 200 [.t 6, .t 7] [] [], none⟩,
    ⟨some 4, .mv (.t 8), none⟩] [4] [])
  (.ret))
def impl_BoxNamed.m : Fn := { np := 2, body := impl_BoxNamed.b, res := [.tmp 4] }
def impl_BoxNamed.k (M : Nat → Option Body) : Prop := M 228 = some (.code impl_BoxNamed.m) ∧ slices_IndexFunc_impl_Box_impl_Box.k M ∧ impl_BoxNamed_1.k M
def impl_isLate.l1 : C := .seq (.reg [⟨some 20, .bin .lss (.t 19) (.t 18), none⟩] [1, 2, 10, 11, 12, 17, 18, 19, 20] [2])
  (.seq (.cond (.t 20) (.skip) (.exit 2))
  (.seq (.block 3 (.seq (.reg [⟨some 21, .iaddr 3 (.t 17) (.t 19), none⟩,
    ⟨some 22, .load true 3 (.t 21), none⟩,
    ⟨some 8, .alloc [.int .i64 0, .int .i64 0, .int .i64 0], none⟩,
    ⟨none, .store 3 (.t 8) (.t 22), none⟩] [1, 2, 8, 10, 11, 12, 17, 18, 19] [2, 8])
  (.seq (.reg [⟨some 23, .faddr 1 (.t 8), none⟩,
    ⟨some 24, .faddr 0 (.t 23), none⟩,
    ⟨some 25, .load false 1 (.t 24), none⟩,
    ⟨some 26, .mv (.t 1), none⟩,
    ⟨some 27, .bin .gtr (.t 25) (.t 26), none⟩] [1, 2, 10, 11, 12, 17, 18, 19, 27] [2])
  (.cond (.t 27) (.seq (.reg [⟨some 4, .mv (.k (.bool true)), none⟩] [4] [])
  (.ret)) (.skip)))))
  (.reg [⟨some 28, .bin .add (.t 19) (.k (.int .i64 1)), none⟩,
    ⟨some 19, .mv (.t 28), none⟩] [1, 2, 10, 11, 12, 17, 18, 19] [2])))
def impl_isLate.l0 : C := .seq (.reg [⟨some 13, .bin .lss (.t 12) (.t 11), none⟩] [1, 2, 10, 11, 12, 13] [2])
  (.seq (.cond (.t 13) (.skip) (.exit 0))
  (.seq (.block 1 (.seq (.reg [⟨some 14, .iaddr 4 (.t 10) (.t 12), none⟩,
    ⟨some 15, .load true 4 (.t 14), none⟩,
    ⟨some 6, .alloc [.int .i64 0, .int .i64 0, .nils 3, .str ⟨#[]⟩], none⟩,
    ⟨none, .store 4 (.t 6) (.t 15), none⟩] [1, 2, 6, 10, 11, 12] [2, 6])
  (.seq (.reg [⟨some 16, .faddr 2 (.t 6), none⟩,
    ⟨some 17, .load false 1 (.t 16), none⟩,
    ⟨some 18, .len (.t 17), none⟩,
    ⟨some 19, .mv (.k (.int .i64 0)), none⟩] [1, 2, 10, 11, 12, 17, 18, 19] [2])
  (.block 2 (.loop impl_isLate.l1)))))
  (.reg [⟨some 29, .bin .add (.t 12) (.k (.int .i64 1)), none⟩,
    ⟨some 12, .mv (.t 29), none⟩] [1, 2, 10, 11, 12] [2])))
def impl_isLate.b : C := .seq (.reg [⟨some 2, .box (.t 0), none⟩,
    ⟨some 4, .mv (.k (.bool false)), none⟩] [1, 2] [2])
  (.seq (.seq (.reg [⟨some 9, .faddr 5 (.t 2), none⟩,
    ⟨some 10, .load false 1 (.t 9), none⟩,
    ⟨some 11, .len (.t 10), none⟩,
    ⟨some 12, .mv (.k (.int .i64 0)), none⟩] [1, 2, 10, 11, 12] [2])
  (.block 0 (.loop impl_isLate.l0)))
  (.seq (.reg [⟨some 30, .faddr 2 (.t 2), none⟩,
    ⟨some 31, .faddr 0 (.t 30), none⟩,
    ⟨some 32, .load false 1 (.t 31), none⟩,
    ⟨some 33, .mv (.t 1), none⟩,
    ⟨some 34, .bin .gtr (.t 32) (.t 33), none⟩,
    ⟨some 4, .mv (.t 34), none⟩] [4] [])
  (.ret)))
def impl_isLate.m : Fn := { np := 2, body := impl_isLate.b, res := [.tmp 4] }
def impl_isLate.k (M : Nat → Option Body) : Prop := M 229 = some (.code impl_isLate.m)
def impl_StoreOk.l1 : C := .seq (.reg [⟨some 83, .bin .lss (.t 82) (.t 81), none⟩] [1, 3, 32, 33, 34, 80, 81, 82, 83] [1, 30, 94])
  (.seq (.cond (.t 83) (.skip) (.exit 2))
  (.seq (.block 3 (.seq (.reg [⟨some 84, .iaddr 4 (.t 80) (.t 82), none⟩,
    ⟨some 85, .load true 4 (.t 84), none⟩,
    ⟨some 7, .alloc [.int .i64 0, .int .i64 0, .nils 3, .str ⟨#[]⟩], none⟩,
    ⟨none, .store 4 (.t 7) (.t 85), none⟩] [1, 3, 7, 32, 33, 34, 80, 81, 82] [1, 7, 30, 94])
  (.seq (.seq (.reg [⟨some 86, .mv (.t 3), none⟩,
    ⟨some 87, .faddr 0 (.t 7), none⟩,
    ⟨some 88, .load false 1 (.t 87), none⟩,
    ⟨some 89, .call 156 [.t 86, .t 88] [] [], none⟩] [1, 3, 7, 32, 33, 34, 80, 81, 82, 89] [1, 7, 30, 94])
  (.cond (.t 89) (.seq (.reg [⟨some 2, .mv (.k (.bool false)), none⟩] [2] [])
  (.ret)) (.skip)))
  (.reg [⟨some 90, .mv (.t 3), none⟩,
    ⟨some 91, .faddr 0 (.t 7), none⟩,
    ⟨some 92, .load false 1 (.t 91), none⟩,
    ⟨some 93, .bslice 1 1 [.int .i64 0] [(0, .t 92)], none⟩,
    ⟨some 94, .app 1 8 (.t 90) (.t 93), none⟩,
    ⟨some 3, .mv (.t 94), none⟩] [1, 3, 32, 33, 34, 80, 81, 82] [1, 30, 94]))))
  (.reg [⟨some 95, .bin .add (.t 82) (.k (.int .i64 1)), none⟩,
    ⟨some 82, .mv (.t 95), none⟩] [1, 3, 32, 33, 34, 80, 81, 82] [1, 30, 94])))
def impl_StoreOk.l0 : C := .seq (.reg [⟨some 35, .bin .lss (.t 34) (.t 33), none⟩] [1, 3, 32, 33, 34, 35] [1, 30, 94])
  (.seq (.cond (.t 35) (.skip) (.exit 0))
  (.seq (.block 1 (.seq (.reg [⟨some 36, .mv (.t 34), none⟩,
    ⟨some 37, .iaddr 7 (.t 32) (.t 34), none⟩,
    ⟨some 38, .load true 7 (.t 37), none⟩,
    ⟨some 5, .alloc [.int .i64 0, .str ⟨#[]⟩, .int .i64 0, .int .i64 0, .int .i64 0, .nils 4, .nils 1], none⟩,
    ⟨some 4, .mv (.t 36), none⟩,
    ⟨none, .store 7 (.t 5) (.t 38), none⟩] [1, 3, 4, 5, 32, 33, 34] [1, 5, 30, 94])
  (.seq (.seq (.regd [⟨some 39, .load true 7 (.t 5), none⟩,
    ⟨some 40, .call 74 [.t 39] [] [], none⟩,
    ⟨some 41, .not (.t 40), none⟩,
    ⟨some 42, .mv (.t 41), none⟩,
    ⟨some 43, .mv (.t 4), some (42, false)⟩,
    ⟨some 44, .bin .gtr (.t 43) (.k (.int .i64 0)), some (42, false)⟩,
    ⟨some 45, .mv (.t 44), some (42, false)⟩,
    ⟨some 46, .faddr 2 (.t 1), some (45, true)⟩,
    ⟨some 47, .load false 1 (.t 46), some (45, true)⟩,
    ⟨some 48, .mv (.t 4), some (45, true)⟩,
    ⟨some 49, .bin .sub (.t 48) (.k (.int .i64 1)), some (45, true)⟩,
    ⟨some 50, .iaddr 7 (.t 47) (.t 49), some (45, true)⟩,
    ⟨some 51, .faddr 0 (.t 50), some (45, true)⟩,
    ⟨some 52, .load false 1 (.t 51), some (45, true)⟩,
    ⟨some 53, .faddr 0 (.t 5), some (45, true)⟩,
    ⟨some 54, .load false 1 (.t 53), some (45, true)⟩,
    ⟨some 55, .bin .geq (.t 52) (.t 54), some (45, true)⟩,
    ⟨some 56, .pick (.t 45) (.t 55) (.k (.bool false)), some (42, false)⟩,
    ⟨some 57, .pick (.t 42) (.k (.bool true)) (.t 56), none⟩,
    ⟨some 58, .mv (.t 57), none⟩,
    ⟨some 59, .load true 4 (.t 1), some (58, false)⟩,
    ⟨some 60, .faddr 1 (.t 5), some (58, false)⟩,
    ⟨some 61, .load false 1 (.t 60), some (58, false)⟩,
    ⟨some 62, .call 228 [.t 59, .t 61] [] [], some (58, false)⟩,
    ⟨some 63, .mv (.t 4), some (58, false)⟩,
    ⟨some 64, .bin .neq (.t 62) (.t 63), some (58, false)⟩,
    ⟨some 65, .pick (.t 58) (.k (.bool true)) (.t 64), none⟩,
    ⟨some 66, .mv (.t 65), none⟩,
    ⟨some 67, .faddr 3 (.t 1), some (66, false)⟩,
    ⟨some 68, .load false 1 (.t 67), some (66, false)⟩,
    ⟨some 69, .faddr 0 (.t 5), some (66, false)⟩,
    ⟨some 70, .load false 1 (.t 69), some (66, false)⟩,
    ⟨some 71, .call 156 [.t 68, .t 70] [] [], some (66, false)⟩,
    ⟨some 72, .pick (.t 66) (.k (.bool true)) (.t 71), none⟩,
    ⟨some 73, .mv (.t 72), none⟩,
    ⟨some 74, .load true 7 (.t 5), some (73, false)⟩,
    ⟨some 75, .faddr 1 (.t 1), some (73, false)⟩,
    ⟨some 76, .load false 1 (.t 75), some (73, false)⟩,
    ⟨some 77, .call 229 [.t 74, .t 76] [] [], some (73, false)⟩,
    ⟨some 78, .pick (.t 73) (.k (.bool true)) (.t 77), none⟩] [[], [0], [0, 1], [0, 1, 2], List.range 4, List.range 5, List.range 6, List.range 7, List.range 8, List.range 7, List.range 7 ++ [9], List.range 11, List.range 12, List.range 13, List.range 7, List.range 7 ++ [14], List.range 16, List.range 17, List.range 18, List.range 19, List.range 20, List.range 20, List.range 20 ++ [21], List.range 23, List.range 20, List.range 25, List.range 26, List.range 27, List.range 28, List.range 29, List.range 28, List.range 28 ++ [30], List.range 32, List.range 33, List.range 34, List.range 35, List.range 35, List.range 35 ++ [36], List.range 38, List.range 39] [1, 3, 5, 32, 33, 34, 78] [1, 5, 30, 94])
  (.cond (.t 78) (.seq (.reg [⟨some 2, .mv (.k (.bool false)), none⟩] [2] [])
  (.ret)) (.skip)))
  (.seq (.reg [⟨some 79, .faddr 5 (.t 5), none⟩,
    ⟨some 80, .load false 1 (.t 79), none⟩,
    ⟨some 81, .len (.t 80), none⟩,
    ⟨some 82, .mv (.k (.int .i64 0)), none⟩] [1, 3, 32, 33, 34, 80, 81, 82] [1, 30, 94])
  (.block 2 (.loop impl_StoreOk.l1))))))
  (.reg [⟨some 96, .bin .add (.t 34) (.k (.int .i64 1)), none⟩,
    ⟨some 34, .mv (.t 96), none⟩] [1, 3, 32, 33, 34] [1, 30, 94])))
def impl_StoreOk.b : C := .seq (.reg [⟨some 1, .box (.t 0), none⟩,
    ⟨some 2, .mv (.k (.bool false)), none⟩] [1] [1])
  (.seq (.seq (.reg [⟨some 8, .faddr 0 (.t 1), none⟩,
    ⟨some 9, .load false 1 (.t 8), none⟩,
    ⟨some 10, .call 101 [.t 9, .k (.int .i64 1), .k (.int .i64 2)] [] [], none⟩,
    ⟨some 11, .not (.t 10), none⟩,
    ⟨some 12, .mv (.t 11), none⟩,
    ⟨some 13, .faddr 1 (.t 1), some (12, false)⟩,
    ⟨some 14, .load false 1 (.t 13), some (12, false)⟩,
    ⟨some 15, .call 101 [.t 14, .k (.int .i64 0), .k (.int .i64 100000)] [] [], some (12, false)⟩,
    ⟨some 16, .not (.t 15), some (12, false)⟩,
    ⟨some 17, .pick (.t 12) (.k (.bool true)) (.t 16), none⟩,
    ⟨some 18, .mv (.t 17), none⟩,
    ⟨some 19, .faddr 2 (.t 1), some (18, false)⟩,
    ⟨some 20, .load false 1 (.t 19), some (18, false)⟩,
    ⟨some 21, .len (.t 20), some (18, false)⟩,
    ⟨some 22, .bin .gtr (.t 21) (.k (.int .i64 5)), some (18, false)⟩,
    ⟨some 23, .pick (.t 18) (.k (.bool true)) (.t 22), none⟩,
    ⟨some 24, .mv (.t 23), none⟩,
    ⟨some 25, .faddr 3 (.t 1), some (24, false)⟩,
    ⟨some 26, .load false 1 (.t 25), some (24, false)⟩,
    ⟨some 27, .call 165 [.t 26, .k (.int .i64 20)] [] [], some (24, false)⟩,
    ⟨some 28, .not (.t 27), some (24, false)⟩,
    ⟨some 29, .pick (.t 24) (.k (.bool true)) (.t 28), none⟩] [1, 29] [1])
  (.cond (.t 29) (.seq (.reg [⟨some 2, .mv (.k (.bool false)), none⟩] [2] [])
  (.ret)) (.skip)))
  (.seq (.reg [⟨some 30, .bslice 1 0 [.int .i64 0] [], none⟩,
    ⟨some 3, .mv (.t 30), none⟩] [1, 3] [1, 30, 94])
  (.seq (.seq (.reg [⟨some 31, .faddr 2 (.t 1), none⟩,
    ⟨some 32, .load false 1 (.t 31), none⟩,
    ⟨some 33, .len (.t 32), none⟩,
    ⟨some 34, .mv (.k (.int .i64 0)), none⟩] [1, 3, 32, 33, 34] [1, 30, 94])
  (.block 0 (.loop impl_StoreOk.l0)))
  (.seq (.reg [⟨some 2, .mv (.k (.bool true)), none⟩] [2] [])
  (.ret)))))
def impl_StoreOk.m : Fn := { np := 1, body := impl_StoreOk.b, res := [.tmp 2] }
def impl_StoreOk.k (M : Nat → Option Body) : Prop := M 150 = some (.code impl_StoreOk.m) ∧ impl_BoxOk.k M ∧ impl_within.k M ∧ slices_Contains_int_int.k M ∧ impl_areGids.k M ∧ impl_BoxNamed.k M ∧ impl_isLate.k M
def spec_BoxNamed.l0 : C := .seq (.seq (.reg [⟨some 6, .mv (.t 5), none⟩,
    ⟨some 7, .faddr 2 (.t 2), none⟩,
    ⟨some 8, .load false 1 (.t 7), none⟩,
    ⟨some 9, .len (.t 8), none⟩,
    ⟨some 10, .bin .lss (.t 6) (.t 9), none⟩] [1, 2, 5, 10] [2])
  (.cond (.t 10) (.skip) (.exit 0)))
  (.seq (.block 1 (.seq (.reg [⟨some 13, .faddr 2 (.t 2), none⟩,
    ⟨some 14, .load false 1 (.t 13), none⟩,
    ⟨some 15, .mv (.t 5), none⟩,
    ⟨some 16, .iaddr 7 (.t 14) (.t 15), none⟩,
    ⟨some 17, .faddr 1 (.t 16), none⟩,
    ⟨some 18, .load false 1 (.t 17), none⟩,
    ⟨some 19, .mv (.t 1), none⟩,
    ⟨some 20, .bin .eql (.t 18) (.t 19), none⟩] [1, 2, 5, 20] [2])
  (.cond (.t 20) (.seq (.reg [⟨some 21, .mv (.t 5), none⟩,
    ⟨some 4, .mv (.t 21), none⟩] [4] [])
  (.ret)) (.skip))))
  (.reg [⟨some 11, .mv (.t 5), none⟩,
    ⟨some 12, .bin .add (.t 11) (.k (.int .i64 1)), none⟩,
    ⟨some 5, .mv (.t 12), none⟩] [1, 2, 5] [2]))
def spec_BoxNamed.b : C := .seq (.reg [⟨some 2, .box (.t 0), none⟩,
    ⟨some 4, .mv (.k (.int .i64 0)), none⟩] [1, 2] [2])
  (.seq (.seq (.reg [⟨some 5, .mv (.k (.int .i64 0)), none⟩] [1, 2, 5] [2])
  (.block 0 (.loop spec_BoxNamed.l0)))
  (.seq (.reg [⟨some 4, .mv (.k (.int .i64 (-1))), none⟩] [4] [])
  (.ret)))
def spec_BoxNamed.m : Fn := { np := 2, body := spec_BoxNamed.b, res := [.tmp 4] }
def spec_BoxNamed.k (M : Nat → Option Body) : Prop := M 226 = some (.code spec_BoxNamed.m)
def spec_l07Times.l1 : C := .seq (.seq (.reg [⟨some 19, .mv (.t 6), none⟩,
    ⟨some 20, .faddr 5 (.t 2), none⟩,
    ⟨some 21, .load false 1 (.t 20), none⟩,
    ⟨some 22, .mv (.t 5), none⟩,
    ⟨some 23, .iaddr 4 (.t 21) (.t 22), none⟩,
    ⟨some 24, .faddr 2 (.t 23), none⟩,
    ⟨some 25, .load false 1 (.t 24), none⟩,
    ⟨some 26, .len (.t 25), none⟩,
    ⟨some 27, .bin .lss (.t 19) (.t 26), none⟩] [1, 2, 5, 6, 27] [2])
  (.cond (.t 27) (.skip) (.exit 2)))
  (.seq (.block 3 (.seq (.reg [⟨some 30, .faddr 5 (.t 2), none⟩,
    ⟨some 31, .load false 1 (.t 30), none⟩,
    ⟨some 32, .mv (.t 5), none⟩,
    ⟨some 33, .iaddr 4 (.t 31) (.t 32), none⟩,
    ⟨some 34, .faddr 2 (.t 33), none⟩,
    ⟨some 35, .load false 1 (.t 34), none⟩,
    ⟨some 36, .mv (.t 6), none⟩,
    ⟨some 37, .iaddr 3 (.t 35) (.t 36), none⟩,
    ⟨some 38, .faddr 1 (.t 37), none⟩,
    ⟨some 39, .faddr 0 (.t 38), none⟩,
    ⟨some 40, .load false 1 (.t 39), none⟩,
    ⟨some 41, .mv (.t 1), none⟩,
    ⟨some 42, .bin .gtr (.t 40) (.t 41), none⟩] [1, 2, 5, 6, 42] [2])
  (.cond (.t 42) (.seq (.reg [⟨some 4, .mv (.k (.bool false)), none⟩] [4] [])
  (.ret)) (.skip))))
  (.reg [⟨some 28, .mv (.t 6), none⟩,
    ⟨some 29, .bin .add (.t 28) (.k (.int .i64 1)), none⟩,
    ⟨some 6, .mv (.t 29), none⟩] [1, 2, 5, 6] [2]))
def spec_l07Times.l0 : C := .seq (.seq (.reg [⟨some 12, .mv (.t 5), none⟩,
    ⟨some 13, .faddr 5 (.t 2), none⟩,
    ⟨some 14, .load false 1 (.t 13), none⟩,
    ⟨some 15, .len (.t 14), none⟩,
    ⟨some 16, .bin .lss (.t 12) (.t 15), none⟩] [1, 2, 5, 16] [2])
  (.cond (.t 16) (.skip) (.exit 0)))
  (.seq (.block 1 (.seq (.reg [⟨some 6, .mv (.k (.int .i64 0)), none⟩] [1, 2, 5, 6] [2])
  (.block 2 (.loop spec_l07Times.l1))))
  (.reg [⟨some 17, .mv (.t 5), none⟩,
    ⟨some 18, .bin .add (.t 17) (.k (.int .i64 1)), none⟩,
    ⟨some 5, .mv (.t 18), none⟩] [1, 2, 5] [2]))
def spec_l07Times.b : C := .seq (.reg [⟨some 2, .box (.t 0), none⟩,
    ⟨some 4, .mv (.k (.bool false)), none⟩] [1, 2] [2])
  (.seq (.seq (.reg [⟨some 7, .faddr 2 (.t 2), none⟩,
    ⟨some 8, .faddr 0 (.t 7), none⟩,
    ⟨some 9, .load false 1 (.t 8), none⟩,
    ⟨some 10, .mv (.t 1), none⟩,
    ⟨some 11, .bin .gtr (.t 9) (.t 10), none⟩] [1, 2, 11] [2])
  (.cond (.t 11) (.seq (.reg [⟨some 4, .mv (.k (.bool false)), none⟩] [4] [])
  (.ret)) (.skip)))
  (.seq (.seq (.reg [⟨some 5, .mv (.k (.int .i64 0)), none⟩] [1, 2, 5] [2])
  (.block 0 (.loop spec_l07Times.l0)))
  (.seq (.reg [⟨some 4, .mv (.k (.bool true)), none⟩] [4] [])
  (.ret))))
def spec_l07Times.m : Fn := { np := 2, body := spec_l07Times.b, res := [.tmp 4] }
def spec_l07Times.k (M : Nat → Option Body) : Prop := M 227 = some (.code spec_l07Times.m)
def spec_StoreOk.l1 : C := .seq (.seq (.reg [⟨some 83, .mv (.t 6), none⟩,
    ⟨some 84, .faddr 5 (.t 5), none⟩,
    ⟨some 85, .load false 1 (.t 84), none⟩,
    ⟨some 86, .len (.t 85), none⟩,
    ⟨some 87, .bin .lss (.t 83) (.t 86), none⟩] [1, 3, 4, 5, 6, 87] [1, 5, 29, 106])
  (.cond (.t 87) (.skip) (.exit 2)))
  (.seq (.block 3 (.seq (.seq (.reg [⟨some 90, .mv (.t 3), none⟩,
    ⟨some 91, .faddr 5 (.t 5), none⟩,
    ⟨some 92, .load false 1 (.t 91), none⟩,
    ⟨some 93, .mv (.t 6), none⟩,
    ⟨some 94, .iaddr 4 (.t 92) (.t 93), none⟩,
    ⟨some 95, .faddr 0 (.t 94), none⟩,
    ⟨some 96, .load false 1 (.t 95), none⟩,
    ⟨some 97, .call 132 [.t 90, .t 96] [] [], none⟩] [1, 3, 4, 5, 6, 97] [1, 5, 29, 106])
  (.cond (.t 97) (.seq (.reg [⟨some 2, .mv (.k (.bool false)), none⟩] [2] [])
  (.ret)) (.skip)))
  (.reg [⟨some 98, .mv (.t 3), none⟩,
    ⟨some 99, .faddr 5 (.t 5), none⟩,
    ⟨some 100, .load false 1 (.t 99), none⟩,
    ⟨some 101, .mv (.t 6), none⟩,
    ⟨some 102, .iaddr 4 (.t 100) (.t 101), none⟩,
    ⟨some 103, .faddr 0 (.t 102), none⟩,
    ⟨some 104, .load false 1 (.t 103), none⟩,
    ⟨some 105, .bslice 1 1 [.int .i64 0] [(0, .t 104)], none⟩,
    ⟨some 106, .app 1 8 (.t 98) (.t 105), none⟩,
    ⟨some 3, .mv (.t 106), none⟩] [1, 3, 4, 5, 6] [1, 5, 29, 106])))
  (.reg [⟨some 88, .mv (.t 6), none⟩,
    ⟨some 89, .bin .add (.t 88) (.k (.int .i64 1)), none⟩,
    ⟨some 6, .mv (.t 89), none⟩] [1, 3, 4, 5, 6] [1, 5, 29, 106]))
def spec_StoreOk.l0 : C := .seq (.seq (.reg [⟨some 30, .mv (.t 4), none⟩,
    ⟨some 31, .faddr 2 (.t 1), none⟩,
    ⟨some 32, .load false 1 (.t 31), none⟩,
    ⟨some 33, .len (.t 32), none⟩,
    ⟨some 34, .bin .lss (.t 30) (.t 33), none⟩] [1, 3, 4, 34] [1, 29, 106])
  (.cond (.t 34) (.skip) (.exit 0)))
  (.seq (.block 1 (.seq (.reg [⟨some 37, .faddr 2 (.t 1), none⟩,
    ⟨some 38, .load false 1 (.t 37), none⟩,
    ⟨some 39, .mv (.t 4), none⟩,
    ⟨some 40, .iaddr 7 (.t 38) (.t 39), none⟩,
    ⟨some 41, .load true 7 (.t 40), none⟩,
    ⟨some 5, .alloc [.int .i64 0, .str ⟨#[]⟩, .int .i64 0, .int .i64 0, .int .i64 0, .nils 4, .nils 1], none⟩,
    ⟨none, .store 7 (.t 5) (.t 41), none⟩] [1, 3, 4, 5] [1, 5, 29, 106])
  (.seq (.seq (.regd [⟨some 42, .load true 7 (.t 5), none⟩,
    ⟨some 43, .call 88 [.t 42] [] [], none⟩,
    ⟨some 44, .not (.t 43), none⟩,
    ⟨some 45, .mv (.t 44), none⟩,
    ⟨some 46, .mv (.t 4), some (45, false)⟩,
    ⟨some 47, .bin .gtr (.t 46) (.k (.int .i64 0)), some (45, false)⟩,
    ⟨some 48, .mv (.t 47), some (45, false)⟩,
    ⟨some 49, .faddr 2 (.t 1), some (48, true)⟩,
    ⟨some 50, .load false 1 (.t 49), some (48, true)⟩,
    ⟨some 51, .mv (.t 4), some (48, true)⟩,
    ⟨some 52, .bin .sub (.t 51) (.k (.int .i64 1)), some (48, true)⟩,
    ⟨some 53, .iaddr 7 (.t 50) (.t 52), some (48, true)⟩,
    ⟨some 54, .faddr 0 (.t 53), some (48, true)⟩,
    ⟨some 55, .load false 1 (.t 54), some (48, true)⟩,
    ⟨some 56, .faddr 0 (.t 5), some (48, true)⟩,
    ⟨some 57, .load false 1 (.t 56), some (48, true)⟩,
    ⟨some 58, .bin .geq (.t 55) (.t 57), some (48, true)⟩,
    ⟨some 59, .pick (.t 48) (.t 58) (.k (.bool false)), some (45, false)⟩,
    ⟨some 60, .pick (.t 45) (.k (.bool true)) (.t 59), none⟩,
    ⟨some 61, .mv (.t 60), none⟩,
    ⟨some 62, .load true 4 (.t 1), some (61, false)⟩,
    ⟨some 63, .faddr 1 (.t 5), some (61, false)⟩,
    ⟨some 64, .load false 1 (.t 63), some (61, false)⟩,
    ⟨some 65, .call 226 [.t 62, .t 64] [] [], some (61, false)⟩,
    ⟨some 66, .mv (.t 4), some (61, false)⟩,
    ⟨some 67, .bin .neq (.t 65) (.t 66), some (61, false)⟩,
    ⟨some 68, .pick (.t 61) (.k (.bool true)) (.t 67), none⟩,
    ⟨some 69, .mv (.t 68), none⟩,
    ⟨some 70, .faddr 3 (.t 1), some (69, false)⟩,
    ⟨some 71, .load false 1 (.t 70), some (69, false)⟩,
    ⟨some 72, .faddr 0 (.t 5), some (69, false)⟩,
    ⟨some 73, .load false 1 (.t 72), some (69, false)⟩,
    ⟨some 74, .call 132 [.t 71, .t 73] [] [], some (69, false)⟩,
    ⟨some 75, .pick (.t 69) (.k (.bool true)) (.t 74), none⟩,
    ⟨some 76, .mv (.t 75), none⟩,
    ⟨some 77, .load true 7 (.t 5), some (76, false)⟩,
    ⟨some 78, .faddr 1 (.t 1), some (76, false)⟩,
    ⟨some 79, .load false 1 (.t 78), some (76, false)⟩,
    ⟨some 80, .call 227 [.t 77, .t 79] [] [], some (76, false)⟩,
    ⟨some 81, .not (.t 80), some (76, false)⟩,
    ⟨some 82, .pick (.t 76) (.k (.bool true)) (.t 81), none⟩] [[], [0], [0, 1], [0, 1, 2], List.range 4, List.range 5, List.range 6, List.range 7, List.range 8, List.range 7, List.range 7 ++ [9], List.range 11, List.range 12, List.range 13, List.range 7, List.range 7 ++ [14], List.range 16, List.range 17, List.range 18, List.range 19, List.range 20, List.range 20, List.range 20 ++ [21], List.range 23, List.range 20, List.range 25, List.range 26, List.range 27, List.range 28, List.range 29, List.range 28, List.range 28 ++ [30], List.range 32, List.range 33, List.range 34, List.range 35, List.range 35, List.range 35 ++ [36], List.range 38, List.range 39, List.range 40] [1, 3, 4, 5, 82] [1, 5, 29, 106])
  (.cond (.t 82) (.seq (.reg [⟨some 2, .mv (.k (.bool false)), none⟩] [2] [])
  (.ret)) (.skip)))
  (.seq (.reg [⟨some 6, .mv (.k (.int .i64 0)), none⟩] [1, 3, 4, 5, 6] [1, 5, 29, 106])
  (.block 2 (.loop spec_StoreOk.l1))))))
  (.reg [⟨some 35, .mv (.t 4), none⟩,
    ⟨some 36, .bin .add (.t 35) (.k (.int .i64 1)), none⟩,
    ⟨some 4, .mv (.t 36), none⟩] [1, 3, 4] [1, 29, 106]))
def spec_StoreOk.b : C := .seq (.reg [⟨some 1, .box (.t 0), none⟩,
    ⟨some 2, .mv (.k (.bool false)), none⟩] [1] [1])
  (.seq (.seq (.reg [⟨some 7, .faddr 0 (.t 1), none⟩,
    ⟨some 8, .load false 1 (.t 7), none⟩,
    ⟨some 9, .call 98 [.t 8, .k (.int .i64 1), .k (.int .i64 2)] [] [], none⟩,
    ⟨some 10, .not (.t 9), none⟩,
    ⟨some 11, .mv (.t 10), none⟩,
    ⟨some 12, .faddr 1 (.t 1), some (11, false)⟩,
    ⟨some 13, .load false 1 (.t 12), some (11, false)⟩,
    ⟨some 14, .call 98 [.t 13, .k (.int .i64 0), .k (.int .i64 100000)] [] [], some (11, false)⟩,
    ⟨some 15, .not (.t 14), some (11, false)⟩,
    ⟨some 16, .pick (.t 11) (.k (.bool true)) (.t 15), none⟩,
    ⟨some 17, .mv (.t 16), none⟩,
    ⟨some 18, .faddr 2 (.t 1), some (17, false)⟩,
    ⟨some 19, .load false 1 (.t 18), some (17, false)⟩,
    ⟨some 20, .len (.t 19), some (17, false)⟩,
    ⟨some 21, .bin .gtr (.t 20) (.k (.int .i64 5)), some (17, false)⟩,
    ⟨some 22, .pick (.t 17) (.k (.bool true)) (.t 21), none⟩,
    ⟨some 23, .mv (.t 22), none⟩,
    ⟨some 24, .faddr 3 (.t 1), some (23, false)⟩,
    ⟨some 25, .load false 1 (.t 24), some (23, false)⟩,
    ⟨some 26, .call 186 [.t 25, .k (.int .i64 20)] [] [], some (23, false)⟩,
    ⟨some 27, .not (.t 26), some (23, false)⟩,
    ⟨some 28, .pick (.t 23) (.k (.bool true)) (.t 27), none⟩] [1, 28] [1])
  (.cond (.t 28) (.seq (.reg [⟨some 2, .mv (.k (.bool false)), none⟩] [2] [])
  (.ret)) (.skip)))
  (.seq (.reg [⟨some 29, .bslice 1 0 [.int .i64 0] [], none⟩,
    ⟨some 3, .mv (.t 29), none⟩] [1, 3] [1, 29, 106])
  (.seq (.seq (.reg [⟨some 4, .mv (.k (.int .i64 0)), none⟩] [1, 3, 4] [1, 29, 106])
  (.block 0 (.loop spec_StoreOk.l0)))
  (.seq (.reg [⟨some 2, .mv (.k (.bool true)), none⟩] [2] [])
  (.ret)))))
def spec_StoreOk.m : Fn := { np := 1, body := spec_StoreOk.b, res := [.tmp 2] }
def spec_StoreOk.k (M : Nat → Option Body) : Prop := M 149 = some (.code spec_StoreOk.m) ∧ spec_BoxOk.k M ∧ spec_l01In.k M ∧ spec_l06In.k M ∧ spec_l06Sorted.k M ∧ spec_BoxNamed.k M ∧ spec_l07Times.k M
end Mx

/-
  What is right: boxes.
-/
namespace Mx
open Go
variable {M : Nat → Option Body}
def badMail (b : Box) (i : Nat) : Bool := match b.mails[i]? with
  | some m => !mailOk m || decide (b.next ≤ m.uid) || (decide (0 < i) && match b.mails[i - 1]? with | some p => decide (m.uid ≤ p.uid) | none => false) || !decide (intO (mailO b.mails m.gid) = (i : Int)) || decide (m.gid ∈ b.gone)
  | none => false
theorem badMail_at {b : Box} {i : Nat} (h : i < b.mails.length) : badMail b i = (!mailOk b.mails[i] || decide (b.next ≤ b.mails[i].uid) || (decide (0 < i) && decide (b.mails[i].uid ≤ b.mails[i - 1].uid)) ||
    !decide (intO (mailO b.mails b.mails[i].gid) = (i : Int)) || decide (b.mails[i].gid ∈ b.gone)) := by
  simp [badMail, h, (show i - 1 < b.mails.length by omega)]
def boxOk (b : Box) : Bool := inR 1 b.gid 9999 && nameOk b.name && stampOk b.time b.who && inR 1 b.next 10000 && decide (b.mails.length ≤ 10) && gidsOk b.gone 40 && (firstN (badMail b) b.mails.length).isNone

def ibS (b : Box) (i : Nat) (x : Nat × Nat) : St := { t := [(1, .c (.ptr 1 x.1 0 0)), (40, .c (mails b.mails)), (41, .c (I b.mails.length)), (42, .c (I i))], o := [(1, ⟨x.1, 7, true, true, [encBox b]⟩)], n := x.2 }
def ibSE (b : Box) (x : Nat × Nat) : St := { t := [(1, .c (.ptr 1 x.1 0 0)), (40, .c (mails b.mails)), (41, .c (I b.mails.length)), (42, .c (I b.mails.length)), (43, .c (.bool false))], o := [(1, ⟨x.1, 7, true, true, [encBox b]⟩)], n := x.2 }
theorem impl_BoxOk.good (hat : impl_MailAt.k M) (hin : slices_Contains_int_int.k M) (hmo : impl_MailOk.k M) (b : Box) (hml : b.mails.length ≤ 1048576) (hgl : b.gone.length ≤ 4611686018427387904) (hw : ∀ m ∈ b.mails, m.flags.length ≤ 1048576)
    (i : Nat) (hi : i < b.mails.length) (x : Nat × Nat) (c : badMail b i = false) : ∃ y, exC (run M) (b.mails.length + 1) impl_BoxOk.l0 (ibS b i x) = some (.normal, ibS b (i + 1) y) := by
      obtain ⟨v, x⟩ := x
      simp only [Prod.exists]
      have hm := impl_MailOk.says hmo b.mails[i] (hw _ (List.getElem_mem hi))
      have ha := impl_MailAt.says hat b b.mails[i].gid hml
      have hg := slices_Contains_int_int.says hin b.gone b.mails[i].gid hgl
      simp only [encMail, encBox] at hm ha hg
      rw [badMail_at hi] at c
      simp at c
      obtain ⟨⟨⟨⟨c1, c2⟩, c3⟩, c4⟩, c5⟩ := c
      have e5 : IntKind.i64.wrap ((i : Int) + 1) = (i : Int) + 1 := wrap_i64 (by omega) (by omega)
      rw [c1] at hm
      rw [c4] at ha
      rw [decide_eq_false c5] at hg
      have c2' : ¬ b.next ≤ b.mails[i].uid := by omega
      by_cases c6 : 0 < i
      · have e6 : IntKind.i64.wrap ((i : Int) - 1) = ((i - 1 : Nat) : Int) := by rw [wrap_i64 (by omega) (by omega)]; omega
        have c3' : ¬ b.mails[i].uid ≤ b.mails[i - 1].uid := by have := c3 c6; omega
        simp (maxSteps := 1000000) [impl_BoxOk.l0, List.range_succ, bs_get, setAt, ibS, encMail, hi, hm, ha, hg, c2', c6, c3', e5, e6, (show i - 1 < b.mails.length by omega)]
      · simp (maxSteps := 1000000) [impl_BoxOk.l0, List.range_succ, bs_get, setAt, ibS, encMail, hi, hm, ha, hg, c2', c6, e5]
theorem impl_BoxOk.bad (hat : impl_MailAt.k M) (hin : slices_Contains_int_int.k M) (hmo : impl_MailOk.k M) (b : Box) (hml : b.mails.length ≤ 1048576) (hgl : b.gone.length ≤ 4611686018427387904) (hw : ∀ m ∈ b.mails, m.flags.length ≤ 1048576)
    (i : Nat) (hi : i < b.mails.length) (x : Nat × Nat) (c : badMail b i = true) : ∃ k, exC (run M) (b.mails.length + 1) impl_BoxOk.l0 (ibS b i x) = some (.ret, { t := [(2, .c (.bool false))], o := [], n := k }) := by
      obtain ⟨v, x⟩ := x
      have hm := impl_MailOk.says hmo b.mails[i] (hw _ (List.getElem_mem hi))
      have ha := impl_MailAt.says hat b b.mails[i].gid hml
      have hg := slices_Contains_int_int.says hin b.gone b.mails[i].gid hgl
      simp only [encMail, encBox] at hm ha hg
      rw [badMail_at hi] at c
      cases c1 : mailOk b.mails[i]
      · rw [c1] at hm
        simp (maxSteps := 1000000) [impl_BoxOk.l0, List.range_succ, bs_get, setAt, ibS, encMail, hi, hm]
      rw [c1] at hm
      by_cases c2 : b.next ≤ b.mails[i].uid
      · simp (maxSteps := 1000000) [impl_BoxOk.l0, List.range_succ, bs_get, setAt, ibS, encMail, hi, hm, c2]
      have c2' : ¬ b.next ≤ b.mails[i].uid := c2
      by_cases c6 : 0 < i
      · have e6 : IntKind.i64.wrap ((i : Int) - 1) = ((i - 1 : Nat) : Int) := by rw [wrap_i64 (by omega) (by omega)]; omega
        by_cases c3 : b.mails[i].uid ≤ b.mails[i - 1].uid
        · simp (maxSteps := 1000000) [impl_BoxOk.l0, List.range_succ, bs_get, setAt, ibS, encMail, hi, hm, c2, c6, c3, e6, (show i - 1 < b.mails.length by omega)]
        by_cases c4 : intO (mailO b.mails b.mails[i].gid) = (i : Int)
        rotate_left
        · simp (maxSteps := 1000000) [impl_BoxOk.l0, List.range_succ, bs_get, setAt, ibS, encMail, hi, hm, c2, c6, c3, e6, (show i - 1 < b.mails.length by omega), ha, c4]
        rw [c4] at ha
        by_cases c5 : b.mails[i].gid ∈ b.gone
        rotate_left
        · simp [c1, c2, c3, c4, c5] at c
        rw [decide_eq_true c5] at hg
        simp (maxSteps := 1000000) [impl_BoxOk.l0, List.range_succ, bs_get, setAt, ibS, encMail, hi, hm, c2, c6, c3, e6, (show i - 1 < b.mails.length by omega), ha, hg]
      · have c3 := c6
        by_cases c4 : intO (mailO b.mails b.mails[i].gid) = (i : Int)
        rotate_left
        · simp (maxSteps := 1000000) [impl_BoxOk.l0, List.range_succ, bs_get, setAt, ibS, encMail, hi, hm, c2, c6, ha, c4]
        rw [c4] at ha
        by_cases c5 : b.mails[i].gid ∈ b.gone
        rotate_left
        · simp [c1, c2, c3, c4, c5] at c
        rw [decide_eq_true c5] at hg
        simp (maxSteps := 1000000) [impl_BoxOk.l0, List.range_succ, bs_get, setAt, ibS, encMail, hi, hm, c2, c6, ha, hg]
theorem impl_BoxOk.says (h : impl_BoxOk.k M) (b : Box) (hml : b.mails.length ≤ 1048576) (hgl : b.gone.length ≤ 4611686018427387904) (hnl : b.name.length ≤ 4611686018427387904) (hw : ∀ m ∈ b.mails, m.flags.length ≤ 1048576) :
    run M 74 [.a (encBox b)] [] = some (.c (.bool (boxOk b)), []) := by
  obtain ⟨h0, hat, hno, hwi, hig, hin, hso, hgo, hmo⟩ := h
  have h1 := impl_isGid.says hig b.gid
  have h2 := impl_NameOk.says hno b.name hnl
  have h3 := impl_StampOk.says hso b.time b.who
  have h4 := impl_within.inR hwi b.next 1 10000
  have h5 := impl_areGids.says hgo b.gone 40 hgl
  refine run_code (b := impl_BoxOk.m) h0 ⟨b.mails.length + 1, ?_⟩
  obtain ⟨g, hr⟩ := early_loop (f := exC (run M) (b.mails.length + 1) impl_BoxOk.l0) b.mails.length (badMail b) (ibS b) 2 (.bool false) 0 (ibSE b)
    (fun i hi x c => impl_BoxOk.good hat hin hmo b hml hgl hw i hi x c)
    (fun i hi x c => impl_BoxOk.bad hat hin hmo b hml hgl hw i hi x c)
    (fun x => by
      obtain ⟨v, x⟩ := x
      simp only [Prod.exists]
      simp (maxSteps := 1000000) [impl_BoxOk.l0, List.range_succ, bs_get, setAt, ibS, ibSE])
  cases c1 : inR 1 b.gid 9999
  · simp (maxSteps := 1000000) [exB, impl_BoxOk.m, impl_BoxOk.b, List.range_succ, bs_get, setAt, h1, c1, boxOk]
  cases c2 : nameOk b.name
  · simp (maxSteps := 1000000) [exB, impl_BoxOk.m, impl_BoxOk.b, List.range_succ, bs_get, setAt, h1, h2, c1, c2, boxOk]
  cases c3 : stampOk b.time b.who
  · simp (maxSteps := 1000000) [exB, impl_BoxOk.m, impl_BoxOk.b, List.range_succ, bs_get, setAt, h1, h2, h3, c1, c2, c3, boxOk]
  cases c4 : inR 1 b.next 10000
  · simp (maxSteps := 1000000) [exB, impl_BoxOk.m, impl_BoxOk.b, List.range_succ, bs_get, setAt, h1, h2, h3, h4, c1, c2, c3, c4, boxOk]
  by_cases c5 : 10 < b.mails.length
  · have c5' : ¬ b.mails.length ≤ 10 := by omega
    have ci : (10 : Int) < b.mails.length := by omega
    simp (maxSteps := 1000000) [exB, impl_BoxOk.m, impl_BoxOk.b, List.range_succ, bs_get, setAt, h1, h2, h3, h4, c1, c2, c3, c4, c5, c5', ci, boxOk]
  have c5' : b.mails.length ≤ 10 := by omega
  have ci : ¬ (10 : Int) < b.mails.length := by omega
  cases c6 : gidsOk b.gone 40
  · simp (maxSteps := 1000000) [exB, impl_BoxOk.m, impl_BoxOk.b, List.range_succ, bs_get, setAt, h1, h2, h3, h4, h5, c1, c2, c3, c4, c5, ci, c6, boxOk]
  cases q : firstN (badMail b) b.mails.length with
  | none =>
    simp [ibS, ibSE, q, fin1] at hr
    simp (maxSteps := 1000000) [exB, impl_BoxOk.m, impl_BoxOk.b, List.range_succ, bs_get, setAt, h1, h2, h3, h4, h5, c1, c2, c3, c4, c5, c5', ci, c6, hr, boxOk, q]
  | some k =>
    simp [ibS, q, fin1] at hr
    simp (maxSteps := 1000000) [exB, impl_BoxOk.m, impl_BoxOk.b, List.range_succ, bs_get, setAt, h1, h2, h3, h4, h5, c1, c2, c3, c4, c5, c5', ci, c6, hr, boxOk, q]

def sbxS (b : Box) (i : Nat) (x : Nat × Nat) : St := { t := [(1, .c (.ptr 1 x.1 0 0)), (3, .c (I i))], o := [(1, ⟨x.1, 7, true, true, [encBox b]⟩)], n := x.2 }
def sbxSE (b : Box) (x : Nat × Nat) : St := { t := [(1, .c (.ptr 1 x.1 0 0)), (3, .c (I b.mails.length)), (43, .c (.bool false))], o := [(1, ⟨x.1, 7, true, true, [encBox b]⟩)], n := x.2 }
theorem spec_BoxOk.good (hat : spec_MailAt.k M) (hin : spec_l06In.k M) (hmo : spec_MailOk.k M) (b : Box) (hml : b.mails.length ≤ 1048576) (hgl : b.gone.length ≤ 4611686018427387904) (hw : ∀ m ∈ b.mails, m.flags.length ≤ 1048576)
    (i : Nat) (hi : i < b.mails.length) (x : Nat × Nat) (c : badMail b i = false) : ∃ y, exC (run M) (b.mails.length + 1) spec_BoxOk.l0 (sbxS b i x) = some (.normal, sbxS b (i + 1) y) := by
      obtain ⟨v, x⟩ := x
      simp only [Prod.exists]
      have hm := spec_MailOk.says hmo b.mails[i] (hw _ (List.getElem_mem hi))
      have ha := spec_MailAt.says hat b b.mails[i].gid hml
      have hg := spec_l06In.says hin b.gone b.mails[i].gid hgl
      simp only [encMail, encBox] at hm ha hg
      rw [badMail_at hi] at c
      simp at c
      obtain ⟨⟨⟨⟨c1, c2⟩, c3⟩, c4⟩, c5⟩ := c
      have e5 : IntKind.i64.wrap ((i : Int) + 1) = (i : Int) + 1 := wrap_i64 (by omega) (by omega)
      rw [c1] at hm
      rw [c4] at ha
      rw [decide_eq_false c5] at hg
      have c2' : ¬ b.next ≤ b.mails[i].uid := by omega
      by_cases c6 : 0 < i
      · have e6 : IntKind.i64.wrap ((i : Int) - 1) = ((i - 1 : Nat) : Int) := by rw [wrap_i64 (by omega) (by omega)]; omega
        have c3' : ¬ b.mails[i].uid ≤ b.mails[i - 1].uid := by have := c3 c6; omega
        simp (maxSteps := 1000000) [spec_BoxOk.l0, List.range_succ, bs_get, setAt, sbxS, encMail, hi, hm, ha, hg, c2', c6, c3', e5, e6, (show i - 1 < b.mails.length by omega)]
      · simp (maxSteps := 1000000) [spec_BoxOk.l0, List.range_succ, bs_get, setAt, sbxS, encMail, hi, hm, ha, hg, c2', c6, e5]
theorem spec_BoxOk.bad (hat : spec_MailAt.k M) (hin : spec_l06In.k M) (hmo : spec_MailOk.k M) (b : Box) (hml : b.mails.length ≤ 1048576) (hgl : b.gone.length ≤ 4611686018427387904) (hw : ∀ m ∈ b.mails, m.flags.length ≤ 1048576)
    (i : Nat) (hi : i < b.mails.length) (x : Nat × Nat) (c : badMail b i = true) : ∃ k, exC (run M) (b.mails.length + 1) spec_BoxOk.l0 (sbxS b i x) = some (.ret, { t := [(2, .c (.bool false))], o := [], n := k }) := by
      obtain ⟨v, x⟩ := x
      have hm := spec_MailOk.says hmo b.mails[i] (hw _ (List.getElem_mem hi))
      have ha := spec_MailAt.says hat b b.mails[i].gid hml
      have hg := spec_l06In.says hin b.gone b.mails[i].gid hgl
      simp only [encMail, encBox] at hm ha hg
      rw [badMail_at hi] at c
      cases c1 : mailOk b.mails[i]
      · rw [c1] at hm
        simp (maxSteps := 1000000) [spec_BoxOk.l0, List.range_succ, bs_get, setAt, sbxS, encMail, hi, hm]
      rw [c1] at hm
      by_cases c2 : b.next ≤ b.mails[i].uid
      · simp (maxSteps := 1000000) [spec_BoxOk.l0, List.range_succ, bs_get, setAt, sbxS, encMail, hi, hm, c2]
      have c2' : ¬ b.next ≤ b.mails[i].uid := c2
      by_cases c6 : 0 < i
      · have e6 : IntKind.i64.wrap ((i : Int) - 1) = ((i - 1 : Nat) : Int) := by rw [wrap_i64 (by omega) (by omega)]; omega
        by_cases c3 : b.mails[i].uid ≤ b.mails[i - 1].uid
        · simp (maxSteps := 1000000) [spec_BoxOk.l0, List.range_succ, bs_get, setAt, sbxS, encMail, hi, hm, c2, c6, c3, e6, (show i - 1 < b.mails.length by omega)]
        by_cases c5 : b.mails[i].gid ∈ b.gone
        · rw [decide_eq_true c5] at hg
          simp (maxSteps := 1000000) [spec_BoxOk.l0, List.range_succ, bs_get, setAt, sbxS, encMail, hi, hm, c2, c6, c3, e6, (show i - 1 < b.mails.length by omega), hg]
        rw [decide_eq_false c5] at hg
        by_cases c4 : intO (mailO b.mails b.mails[i].gid) = (i : Int)
        · simp [c1, c2, c3, c4, c5] at c
        simp (maxSteps := 1000000) [spec_BoxOk.l0, List.range_succ, bs_get, setAt, sbxS, encMail, hi, hm, c2, c6, c3, e6, (show i - 1 < b.mails.length by omega), ha, hg, c4]
      · have c3 := c6
        by_cases c5 : b.mails[i].gid ∈ b.gone
        · rw [decide_eq_true c5] at hg
          simp (maxSteps := 1000000) [spec_BoxOk.l0, List.range_succ, bs_get, setAt, sbxS, encMail, hi, hm, c2, c6, hg]
        rw [decide_eq_false c5] at hg
        by_cases c4 : intO (mailO b.mails b.mails[i].gid) = (i : Int)
        · simp [c1, c2, c3, c4, c5] at c
        simp (maxSteps := 1000000) [spec_BoxOk.l0, List.range_succ, bs_get, setAt, sbxS, encMail, hi, hm, c2, c6, ha, hg, c4]
theorem spec_BoxOk.says (h : spec_BoxOk.k M) (b : Box) (hml : b.mails.length ≤ 1048576) (hgl : b.gone.length ≤ 4611686018427387904) (hnl : b.name.length ≤ 4611686018427387904) (hw : ∀ m ∈ b.mails, m.flags.length ≤ 1048576) :
    run M 88 [.a (encBox b)] [] = some (.c (.bool (boxOk b)), []) := by
  obtain ⟨h0, hno, hat, hwi, hin, hso, hgo, hmo⟩ := h
  have h1 := spec_l01In.inR hwi b.gid 1 9999
  have h2 := spec_NameOk.says hno b.name hnl
  have h3 := spec_StampOk.says hso b.time b.who
  have h4 := spec_l01In.inR hwi b.next 1 10000
  have h5 := spec_l06Sorted.says hgo b.gone 40 hgl
  refine run_code (b := spec_BoxOk.m) h0 ⟨b.mails.length + 1, ?_⟩
  obtain ⟨g, hr⟩ := early_loop (f := exC (run M) (b.mails.length + 1) spec_BoxOk.l0) b.mails.length (badMail b) (sbxS b) 2 (.bool false) 0 (sbxSE b)
    (fun i hi x c => spec_BoxOk.good hat hin hmo b hml hgl hw i hi x c)
    (fun i hi x c => spec_BoxOk.bad hat hin hmo b hml hgl hw i hi x c)
    (fun x => by
      obtain ⟨v, x⟩ := x
      simp only [Prod.exists]
      simp (maxSteps := 1000000) [spec_BoxOk.l0, List.range_succ, bs_get, setAt, sbxS, sbxSE])
  cases c1 : inR 1 b.gid 9999
  · simp (maxSteps := 1000000) [exB, spec_BoxOk.m, spec_BoxOk.b, List.range_succ, bs_get, setAt, h1, c1, boxOk]
  cases c2 : nameOk b.name
  · simp (maxSteps := 1000000) [exB, spec_BoxOk.m, spec_BoxOk.b, List.range_succ, bs_get, setAt, h1, h2, c1, c2, boxOk]
  cases c3 : stampOk b.time b.who
  · simp (maxSteps := 1000000) [exB, spec_BoxOk.m, spec_BoxOk.b, List.range_succ, bs_get, setAt, h1, h2, h3, c1, c2, c3, boxOk]
  cases c4 : inR 1 b.next 10000
  · simp (maxSteps := 1000000) [exB, spec_BoxOk.m, spec_BoxOk.b, List.range_succ, bs_get, setAt, h1, h2, h3, h4, c1, c2, c3, c4, boxOk]
  by_cases c5 : 10 < b.mails.length
  · have c5' : ¬ b.mails.length ≤ 10 := by omega
    have ci : (10 : Int) < b.mails.length := by omega
    simp (maxSteps := 1000000) [exB, spec_BoxOk.m, spec_BoxOk.b, List.range_succ, bs_get, setAt, h1, h2, h3, h4, c1, c2, c3, c4, c5, c5', ci, boxOk]
  have c5' : b.mails.length ≤ 10 := by omega
  have ci : ¬ (10 : Int) < b.mails.length := by omega
  cases c6 : gidsOk b.gone 40
  · simp (maxSteps := 1000000) [exB, spec_BoxOk.m, spec_BoxOk.b, List.range_succ, bs_get, setAt, h1, h2, h3, h4, h5, c1, c2, c3, c4, c5, ci, c6, boxOk]
  cases q : firstN (badMail b) b.mails.length with
  | none =>
    simp [sbxS, sbxSE, q, fin1] at hr
    simp (maxSteps := 1000000) [exB, spec_BoxOk.m, spec_BoxOk.b, List.range_succ, bs_get, setAt, h1, h2, h3, h4, h5, c1, c2, c3, c4, c5, c5', ci, c6, hr, boxOk, q]
  | some k =>
    simp [sbxS, q, fin1] at hr
    simp (maxSteps := 1000000) [exB, spec_BoxOk.m, spec_BoxOk.b, List.range_succ, bs_get, setAt, h1, h2, h3, h4, h5, c1, c2, c3, c4, c5, c5', ci, c6, hr, boxOk, q]
end Mx

/-
  Stores: as trees; what is laid over, weighed, held against.
-/
namespace Mx
open Go
variable {M : Nat → Option Body}
structure Store where
  who : Int
  time : Int
  boxes : List Box
  gone : List Int
abbrev boxes (l : List Box) : T := .sl false 7 (l.map encBox)
abbrev encStore (s : Store) : List T := [I s.who, I s.time, boxes s.boxes, ints s.gone]
abbrev encStoreO (s : Store) : List T := [I s.who, I s.time, .sl true 7 (s.boxes.map encBox), .sl true 1 (irow s.gone)]
abbrev ctStore : List Ct := [.int .i64, .int .i64, .sl ctBox, .sl [.int .i64]]
def StoreFits (s : Store) : Prop := s.boxes.length ≤ maxLen ∧ s.gone.length ≤ maxLen ∧ ∀ b ∈ s.boxes, BoxFits b
theorem has_store {r : List T} (h : HasL ctStore r) : ∃ x : Store, r = encStore x ∧ StoreFits x := by
  match r, h with
  | [a, b, f, g], h =>
    obtain ⟨x1, rfl⟩ := has_int (h.2 0 _ a rfl rfl)
    obtain ⟨x3, rfl⟩ := has_int (h.2 1 _ b rfl rfl)
    obtain ⟨x6, rfl, h6, q6⟩ := has_list encBox BoxFits (fun r hr => has_box hr) (h.2 2 _ f rfl rfl)
    obtain ⟨x7, rfl, h7, _⟩ := has_list (fun n : Int => [I n]) (fun _ => True) (fun r hr => by
      match r, hr with
      | [a], hr => obtain ⟨n, rfl⟩ := has_int (hr.2 0 _ a rfl rfl); exact ⟨n, rfl, trivial⟩) (h.2 3 _ g rfl rfl)
    exact ⟨⟨x1, x3, x6, x7⟩, rfl, h6, h7, q6⟩
def wBoxes (l : List Box) : Nat := l.length + (l.map wBox).sum
def wStore (s : Store) : Nat := wBoxes s.boxes + s.gone.length
theorem wBox_le {l : List Box} {b : Box} (h : b ∈ l) : wBox b ≤ wBoxes l := by
  have := le_sum wBox l b h
  unfold wBoxes; omega
/-- what a row of a box weighs -/
def wRowB : List T → Nat
  | [_, .str s, _, _, _, .sl _ _ ms, .sl _ _ gs] => s.size + (ms.length + (ms.map wRow).sum) + gs.length
  | _ => 0
theorem wRowB_box (b : Box) : wRowB (encBox b) = wBox b := by
  have e : ((b.mails.map encMail).map wRow).sum = (b.mails.map wMail).sum := by
    rw [List.map_map]; congr 1; apply List.map_congr_left; intro m _; exact wRow_mail m
  show (bs b.name).size + ((b.mails.map encMail).length + ((b.mails.map encMail).map wRow).sum) + (irow b.gone).length = _
  rw [e, bs_size, List.length_map, irow_len]; rfl
theorem laws_szBoxS.says (h : laws_szBoxS.k M) (l : List Box) (hl : l.length ≤ maxLen) (hm : ∀ b ∈ l, BoxFits b) (k : Nat) (hk : k ≤ 1048576) :
    run M 115 [.c (boxes l), .c (I k)] [] = some (.c (I (if k < wBoxes l then -1 else (k : Int) - wBoxes l)), []) := by
  have hx : maxLen = 9223372036854775807 := rfl
  have := szS_says (M := M) (F := 115) (n := 7) (f := 17) h.1 (rows := l.map encBox) (by simp; omega) wRowB (by
    intro r hr
    obtain ⟨b, hbb, rfl⟩ := List.mem_map.1 hr
    refine ⟨rfl, rfl, fun k hk => ?_⟩
    rw [wRowB_box]
    exact laws_szBox.says h.2 b (hm b hbb) k hk) k hk
  have e : ((l.map encBox).map wRowB).sum = (l.map wBox).sum := by
    rw [List.map_map]; congr 1; apply List.map_congr_left; intro m _; exact wRowB_box m
  rw [e, List.length_map] at this
  exact this
theorem laws_szStore.says (h : laws_szStore.k M) (s : Store) (hs : StoreFits s) (k : Nat) (hk : k ≤ 1048576) : run M 29 [.a (encStore s), .c (I k)] [] = some (.c (I (if k < wStore s then -1 else (k : Int) - wStore s)), []) := by
  have hx : maxLen = 9223372036854775807 := rfl
  obtain ⟨f1, f2, f3⟩ := hs
  obtain ⟨h0, k2, k1⟩ := h
  have h1 := laws_szBoxS.says k1 s.boxes f1 f3 k hk
  refine run_code (b := laws_szStore.m) h0 ⟨0, ?_⟩
  by_cases c1 : k < wBoxes s.boxes
  · rw [if_pos c1] at h1
    rw [if_pos (show k < wStore s by unfold wStore; omega)]
    simp [exB, laws_szStore.m, laws_szStore.b, List.range_succ, h1]
  rw [if_neg c1] at h1
  have d1 : ¬ (k : Int) - wBoxes s.boxes < 0 := by omega
  have h2 := laws_szIntS.says k2 s.gone (by omega) ((k : Int) - wBoxes s.boxes) (by omega) (by omega)
  by_cases c3 : (k : Int) - wBoxes s.boxes < s.gone.length
  · rw [if_pos c3] at h2
    rw [if_pos (show k < wStore s by unfold wStore; omega)]
    simp [exB, laws_szStore.m, laws_szStore.b, List.range_succ, d1, h1, h2]
  · rw [if_neg c3] at h2
    have d3 : ¬ (k : Int) - wBoxes s.boxes - s.gone.length < 0 := by omega
    rw [if_neg (show ¬ k < wStore s by unfold wStore; omega)]
    have e4 : (k : Int) - (wStore s : Nat) = (k : Int) - wBoxes s.boxes - s.gone.length := by unfold wStore; omega
    rw [e4]
    simp [exB, laws_szStore.m, laws_szStore.b, List.range_succ, d1, d3, h1, h2]
theorem laws_toBoxS.says (h : laws_toBoxS.k M) (l : List Box) (hl : wBoxes l ≤ 1048576) : run M 117 [.c (boxes l)] [] = some (.c (.sl true 7 (l.map encBox)), []) := by
  refine toS_says (M := M) (F := 117) (n := 7) (by' := 96) (z := [.int .i64 0, .str ⟨#[]⟩, .int .i64 0, .int .i64 0, .int .i64 0, .nils 4, .nils 1]) (f := 18) h.1 rfl (by simp; unfold wBoxes at hl; omega) (by omega) (fun r hr => ?_)
  obtain ⟨x, hx, rfl⟩ := List.mem_map.1 hr
  exact ⟨rfl, rfl, _, laws_toBox.says h.2 x (Nat.le_trans (wBox_le hx) hl), rfl, rfl⟩
theorem laws_toStore.says (h : laws_toStore.k M) (s : Store) (hs : wStore s ≤ 1048576) : run M 30 [.a (encStore s)] [] = some (.a (encStoreO s), []) := by
  obtain ⟨h0, k1, k2⟩ := h
  have h1 := laws_toIntS.says k1 s.gone (by unfold wStore at hs; omega)
  have h2 := laws_toBoxS.says k2 s.boxes (by unfold wStore at hs; omega)
  refine run_code (b := laws_toStore.m) h0 ⟨0, ?_⟩
  simp [exB, laws_toStore.m, laws_toStore.b, List.range_succ, h1, h2, setAt, List.take_of_length_le]
theorem laws_eqBoxS.says (h : laws_eqBoxS.k M) (l : List Box) (hl : wBoxes l ≤ 1048576) : run M 121 [.c (boxes l), .c (boxes l)] [] = some (.c (.bool true), []) := by
  refine eqS_says (M := M) (F := 121) (n := 7) (f := 21) h.1 (by simp; unfold wBoxes at hl; omega) (fun r hr => ?_)
  obtain ⟨x, hx, rfl⟩ := List.mem_map.1 hr
  exact ⟨rfl, rfl, laws_eqBox.says h.2 x (Nat.le_trans (wBox_le hx) hl)⟩
theorem laws_eqStore.says (h : laws_eqStore.k M) (s : Store) (hs : wStore s ≤ 1048576) : run M 33 [.a (encStore s), .a (encStore s)] [] = some (.c (.bool true), []) := by
  obtain ⟨h0, k1, k2⟩ := h
  have h1 := laws_eqIntS.says k1 s.gone (by unfold wStore at hs; omega)
  have h2 := laws_eqBoxS.says k2 s.boxes (by unfold wStore at hs; omega)
  refine run_code (b := laws_eqStore.m) h0 ⟨0, ?_⟩
  simp [exB, laws_eqStore.m, laws_eqStore.b, List.range_succ, h1, h2]
end Mx

/-
  What is right: stores.
-/
namespace Mx
open Go
variable {M : Nat → Option Body}
/-- a place of a list whose thing is so -/
def atP {α : Type} (p : α → Bool) (l : List α) (i : Nat) : Bool := match l[i]? with
  | some x => p x
  | none => false
theorem atP_at {α : Type} {p : α → Bool} {l : List α} {i : Nat} (h : i < l.length) : atP p l i = p l[i] := by simp [atP, h]
theorem firstF_findIdx {α : Type} (p : α → Bool) (l : List α) : ∀ d i, i + d = l.length → firstF (atP p l) d i = ((l.drop i).findIdx? p).map (· + i)
  | 0, i, h => by rw [firstF, List.drop_eq_nil_of_le (by omega)]; rfl
  | d + 1, i, h => by
    have hi : i < l.length := by omega
    rw [firstF, atP_at hi, List.drop_eq_getElem_cons hi, List.findIdx?_cons]
    split
    · simp
    · rw [firstF_findIdx p l d (i + 1) (by omega), Option.map_map]
      congr 1; funext x; simp only [Function.comp]; omega
theorem firstN_findIdx {α : Type} (p : α → Bool) (l : List α) : firstN (atP p l) l.length = l.findIdx? p := by
  rw [firstN, firstF_findIdx p l _ _ (by omega)]; simp
theorem firstN_any {α : Type} (p : α → Bool) (l : List α) : (firstN (atP p l) l.length).isSome = l.any p := by
  rw [firstN_findIdx, List.findIdx?_isSome]
def named (l : List Box) (s : List UInt8) : Option Nat := l.findIdx? fun b => decide (b.name = s)
def bnS (st : Store) (s : List UInt8) (i : Nat) (x : Nat × Nat) : St := { t := [(1, .c (S s)), (2, .c (.ptr 2 x.1 0 0)), (5, .c (I i))], o := [(2, ⟨x.1, 4, true, true, [encStore st]⟩)], n := x.2 }
/-- a loop that answers the first place found -/
def finI {β : Type} (r : Nat) (e : Nat) (E : β → St) (q : Option Nat) (m : β × Nat) : Out × St := match q with
  | none => (.exit e, E m.1)
  | some k => (.ret, { t := [(r, .c (I k))], o := [], n := m.2 })
theorem index_loop {β γ : Type} (n : Nat) (p : Nat → Bool) {f : St → Option (Out × St)} (S : Nat → β → St) (r : Nat) (e : Nat) (E : γ → St) (z : γ)
    (h1 : ∀ i, i < n → ∀ x, p i = false → ∃ y, f (S i x) = some (.normal, S (i + 1) y)) (h2 : ∀ i, i < n → ∀ x, p i = true → ∃ k, f (S i x) = some (.ret, { t := [(r, .c (I i))], o := [], n := k }))
    (h3 : ∀ x, ∃ y, f (S n x) = some (.exit e, E y)) : ∃ g : β → γ × Nat, ∀ x, loopN f (n + 1) (S 0 x) = some (finI r e E (firstN p n) (g x)) :=
  first_loop n p S (finI r e E) (fun q m => by cases q <;> simp [finI]) h1 (fun i hi x c => by
    obtain ⟨k, hk⟩ := h2 i hi x c
    exact ⟨(z, k), hk⟩) (fun x => by
    obtain ⟨y, hy⟩ := h3 x
    exact ⟨(y, 0), hy⟩)
def bnE (st : Store) (s : List UInt8) (x : Nat × Nat) : St := { t := [(1, .c (S s)), (2, .c (.ptr 2 x.1 0 0)), (5, .c (I st.boxes.length)), (10, .c (.bool false))], o := [(2, ⟨x.1, 4, true, true, [encStore st]⟩)], n := x.2 }
theorem spec_BoxNamed.says (h : spec_BoxNamed.k M) (st : Store) (s : List UInt8) (hb : st.boxes.length ≤ 1048576) : run M 226 [.a (encStore st), .c (S s)] [] = some (.c (I (intO (named st.boxes s))), []) := by
  refine run_code (b := spec_BoxNamed.m) h ⟨st.boxes.length + 1, ?_⟩
  obtain ⟨g, hr⟩ := index_loop (f := exC (run M) (st.boxes.length + 1) spec_BoxNamed.l0) st.boxes.length (atP (fun b => decide (b.name = s)) st.boxes) (bnS st s) 4 0 (bnE st s) (0, 0)
    (fun i hi x c => by
      obtain ⟨v, x⟩ := x
      rw [atP_at hi, decide_eq_false_iff_not] at c
      have e5 : IntKind.i64.wrap ((i : Int) + 1) = (i : Int) + 1 := wrap_i64 (by omega) (by omega)
      simp only [Prod.exists]
      simp (maxSteps := 1000000) [spec_BoxNamed.l0, List.range_succ, bs_get, setAt, bnS, hi, c, encBox, e5])
    (fun i hi x c => by
      obtain ⟨v, x⟩ := x
      rw [atP_at hi, decide_eq_true_eq] at c
      simp (maxSteps := 1000000) [spec_BoxNamed.l0, List.range_succ, bs_get, setAt, bnS, hi, c, encBox])
    (fun x => by
      obtain ⟨v, x⟩ := x
      simp only [Prod.exists]
      simp (maxSteps := 1000000) [spec_BoxNamed.l0, List.range_succ, bs_get, setAt, bnS, bnE])
  rw [firstN_findIdx] at hr
  unfold named
  cases hm : st.boxes.findIdx? fun b => decide (b.name = s) with
  | none =>
    simp [bnS, hm, finI, bnE] at hr
    simp (maxSteps := 1000000) [exB, spec_BoxNamed.m, spec_BoxNamed.b, List.range_succ, bs_get, setAt, hr, intO]
  | some k =>
    simp [bnS, hm, finI] at hr
    simp (maxSteps := 1000000) [exB, spec_BoxNamed.m, spec_BoxNamed.b, List.range_succ, bs_get, setAt, hr, intO]
theorem impl_BoxNamed_1.says (h : impl_BoxNamed_1.k M) (b : Box) (s : List UInt8) : run M 271 [.a (encBox b), .c (.vp [S s] 0)] [] = some (.c (.bool (decide (b.name = s))), []) := by
  refine run_code (b := impl_BoxNamed_1.m) h ⟨0, ?_⟩
  simp (maxSteps := 1000000) [exB, impl_BoxNamed_1.m, impl_BoxNamed_1.b, List.range_succ, bs_get, setAt]
def ixbS (l : List Box) (s : List UInt8) (i : Nat) (x : Nat) : St := { t := [(0, .c (boxes l)), (1, .c (.fn 271 [.vp [S s] 0])), (7, .c (I l.length)), (8, .c (I i))], o := [], n := x }
def ixbE (l : List Box) (s : List UInt8) (x : Nat) : St := { t := [(0, .c (boxes l)), (1, .c (.fn 271 [.vp [S s] 0])), (7, .c (I l.length)), (8, .c (I l.length)), (9, .c (.bool false))], o := [], n := x }
theorem impl_BoxNamed.index (h : slices_IndexFunc_impl_Box_impl_Box.k M) (h2 : impl_BoxNamed_1.k M) (l : List Box) (s : List UInt8) (hl : l.length ≤ 1048576) :
    run M 200 [.c (boxes l), .c (.fn 271 [.vp [S s] 0])] [] = some (.c (I (intO (named l s))), []) := by
  refine run_code (b := slices_IndexFunc_impl_Box_impl_Box.m) h ⟨l.length + 1, ?_⟩
  obtain ⟨g, hr⟩ := index_loop (f := exC (run M) (l.length + 1) slices_IndexFunc_impl_Box_impl_Box.l0) l.length (atP (fun b => decide (b.name = s)) l) (ixbS l s) 4 0 (ixbE l s) 0
    (fun i hi x c => by
      have hm := impl_BoxNamed_1.says h2 l[i] s
      rw [atP_at hi] at c
      rw [c] at hm
      simp only [encBox] at hm
      have e5 : IntKind.i64.wrap ((i : Int) + 1) = (i : Int) + 1 := wrap_i64 (by omega) (by omega)
      simp (maxSteps := 1000000) [slices_IndexFunc_impl_Box_impl_Box.l0, List.range_succ, bs_get, setAt, ixbS, hi, hm, encBox, e5])
    (fun i hi x c => by
      have hm := impl_BoxNamed_1.says h2 l[i] s
      rw [atP_at hi] at c
      rw [c] at hm
      simp only [encBox] at hm
      simp (maxSteps := 1000000) [slices_IndexFunc_impl_Box_impl_Box.l0, List.range_succ, bs_get, setAt, ixbS, hi, hm, encBox])
    (fun x => by simp (maxSteps := 1000000) [slices_IndexFunc_impl_Box_impl_Box.l0, List.range_succ, bs_get, setAt, ixbS, ixbE])
  rw [firstN_findIdx] at hr
  unfold named
  cases hm : l.findIdx? fun b => decide (b.name = s) with
  | none =>
    simp [ixbS, hm, finI, ixbE] at hr
    simp (maxSteps := 1000000) [exB, slices_IndexFunc_impl_Box_impl_Box.m, slices_IndexFunc_impl_Box_impl_Box.b, List.range_succ, bs_get, setAt, hr, intO]
  | some k =>
    simp [ixbS, hm, finI] at hr
    simp (maxSteps := 1000000) [exB, slices_IndexFunc_impl_Box_impl_Box.m, slices_IndexFunc_impl_Box_impl_Box.b, List.range_succ, bs_get, setAt, hr, intO]
theorem impl_BoxNamed.says (h : impl_BoxNamed.k M) (st : Store) (s : List UInt8) (hb : st.boxes.length ≤ 1048576) : run M 228 [.a (encStore st), .c (S s)] [] = some (.c (I (intO (named st.boxes s))), []) := by
  have h1 := impl_BoxNamed.index h.2.1 h.2.2 st.boxes s hb
  refine run_code (b := impl_BoxNamed.m) h.1 ⟨0, ?_⟩
  simp (maxSteps := 1000000) [exB, impl_BoxNamed.m, impl_BoxNamed.b, List.range_succ, bs_get, setAt, h1]
/-! ## late stamps -/
def lateM (time : Int) (m : Mail) : Bool := m.flags.any fun r => decide (time < r.time)
def late (b : Box) (time : Int) : Bool := decide (time < b.time) || b.mails.any (lateM time)
def ltS (b : Box) (time : Int) (i : Nat) (x : Nat × Nat) : St := { t := [(1, .c (I time)), (2, .c (.ptr 2 x.1 0 0)), (10, .c (mails b.mails)), (11, .c (I b.mails.length)), (12, .c (I i))], o := [(2, ⟨x.1, 7, true, true, [encBox b]⟩)], n := x.2 }
def ltE (b : Box) (time : Int) (x : Nat × Nat) : St := { t := [(1, .c (I time)), (2, .c (.ptr 2 x.1 0 0)), (10, .c (mails b.mails)), (11, .c (I b.mails.length)), (12, .c (I b.mails.length)), (13, .c (.bool false))], o := [(2, ⟨x.1, 7, true, true, [encBox b]⟩)], n := x.2 }
def lt1S (b : Box) (time : Int) (i : Nat) (l : List Reg) (k : Nat) (x : Nat × Nat) : St := { t := [(1, .c (I time)), (2, .c (.ptr 2 x.1 0 0)), (10, .c (mails b.mails)), (11, .c (I b.mails.length)), (12, .c (I i)), (17, .c (regs l)), (18, .c (I l.length)), (19, .c (I k))], o := [(2, ⟨x.1, 7, true, true, [encBox b]⟩)], n := x.2 }
def lt1E (b : Box) (time : Int) (i : Nat) (l : List Reg) (x : Nat × Nat) : St := { t := [(1, .c (I time)), (2, .c (.ptr 2 x.1 0 0)), (10, .c (mails b.mails)), (11, .c (I b.mails.length)), (12, .c (I i)), (17, .c (regs l)), (18, .c (I l.length)), (19, .c (I l.length)), (20, .c (.bool false))], o := [(2, ⟨x.1, 7, true, true, [encBox b]⟩)], n := x.2 }
theorem any_none {α : Type} {p : α → Bool} {l : List α} (h : l.any p = false) : firstN (atP p l) l.length = none := by
  have := firstN_any p l
  rw [h] at this; simpa using this
theorem any_some {α : Type} {p : α → Bool} {l : List α} (h : l.any p = true) : ∃ k, firstN (atP p l) l.length = some k := by
  have := firstN_any p l
  rw [h] at this; exact Option.isSome_iff_exists.1 this
theorem impl_isLate.inner (b : Box) (time : Int) (i K : Nat) (l : List Reg) (hl : l.length ≤ 1048576) : ∃ g : Nat × Nat → (Nat × Nat) × Nat, ∀ x, loopN (exC (run M) K impl_isLate.l1) (l.length + 1) (lt1S b time i l 0 x) = some (fin1 4 (.bool true) 2 (lt1E b time i l) (firstN (atP (fun r => decide (time < r.time)) l) l.length) (g x)) :=
  early_loop l.length (atP (fun r => decide (time < r.time)) l) (lt1S b time i l) 4 (.bool true) 2 (lt1E b time i l)
    (fun i hi x c => by
      obtain ⟨v, x⟩ := x
      rw [atP_at hi, decide_eq_false_iff_not] at c
      have e5 : IntKind.i64.wrap ((i : Int) + 1) = (i : Int) + 1 := wrap_i64 (by omega) (by omega)
      simp only [Prod.exists]
      simp (maxSteps := 1000000) [impl_isLate.l1, List.range_succ, bs_get, setAt, lt1S, hi, c, encReg, e5])
    (fun i hi x c => by
      obtain ⟨v, x⟩ := x
      rw [atP_at hi, decide_eq_true_eq] at c
      simp (maxSteps := 1000000) [impl_isLate.l1, List.range_succ, bs_get, setAt, lt1S, hi, c, encReg])
    (fun x => by
      obtain ⟨v, x⟩ := x
      simp only [Prod.exists]
      simp (maxSteps := 1000000) [impl_isLate.l1, List.range_succ, bs_get, setAt, lt1S, lt1E])
theorem impl_isLate.says (h : impl_isLate.k M) (b : Box) (time : Int) (hb : b.mails.length ≤ 1048576) (hf : ∀ m ∈ b.mails, m.flags.length ≤ 1048576) : run M 229 [.a (encBox b), .c (I time)] [] = some (.c (.bool (late b time)), []) := by
  refine run_code (b := impl_isLate.m) h ⟨b.mails.length + 1048577, ?_⟩
  obtain ⟨K, hK⟩ : ∃ K, b.mails.length + 1048577 = K := ⟨_, rfl⟩
  rw [hK]
  obtain ⟨g, hr⟩ := early_loop (f := exC (run M) K impl_isLate.l0) b.mails.length (atP (lateM time) b.mails) (ltS b time) 4 (.bool true) 0 (ltE b time)
    (fun i hi x c => by
      obtain ⟨v, x⟩ := x
      rw [atP_at hi, lateM] at c
      have e5 : IntKind.i64.wrap ((i : Int) + 1) = (i : Int) + 1 := wrap_i64 (by omega) (by omega)
      have hfl := hf _ (List.getElem_mem hi)
      obtain ⟨g, hr⟩ := impl_isLate.inner (M := M) b time i K b.mails[i].flags hfl
      rw [any_none c] at hr
      have hr2 := fun x => loopN_le (hr x) (show b.mails[i].flags.length + 1 ≤ K by omega)
      simp [lt1S, lt1E, fin1] at hr2
      simp only [Prod.exists]
      simp (maxSteps := 1000000) [impl_isLate.l0, List.range_succ, bs_get, setAt, ltS, hi, encMail, e5, hr2])
    (fun i hi x c => by
      obtain ⟨v, x⟩ := x
      rw [atP_at hi, lateM] at c
      have hfl := hf _ (List.getElem_mem hi)
      obtain ⟨g, hr⟩ := impl_isLate.inner (M := M) b time i K b.mails[i].flags hfl
      obtain ⟨k, hk⟩ := any_some c
      rw [hk] at hr
      have hr2 := fun x => loopN_le (hr x) (show b.mails[i].flags.length + 1 ≤ K by omega)
      simp [lt1S, fin1] at hr2
      simp (maxSteps := 1000000) [impl_isLate.l0, List.range_succ, bs_get, setAt, ltS, hi, encMail, hr2])
    (fun x => by
      obtain ⟨v, x⟩ := x
      simp only [Prod.exists]
      simp (maxSteps := 1000000) [impl_isLate.l0, List.range_succ, bs_get, setAt, ltS, ltE])
  have hr2 := fun x => loopN_le (hr x) (show b.mails.length + 1 ≤ K by omega)
  unfold late
  cases c : b.mails.any (lateM time)
  · rw [any_none c] at hr2
    simp [ltS, ltE, fin1] at hr2
    simp (maxSteps := 1000000) [exB, impl_isLate.m, impl_isLate.b, List.range_succ, bs_get, setAt, hr2]
  · obtain ⟨k, hk⟩ := any_some c
    rw [hk] at hr2
    simp [ltS, fin1] at hr2
    simp (maxSteps := 1000000) [exB, impl_isLate.m, impl_isLate.b, List.range_succ, bs_get, setAt, hr2]
def st0S (b : Box) (time : Int) (i : Nat) (x : Nat × Nat) : St := { t := [(1, .c (I time)), (2, .c (.ptr 2 x.1 0 0)), (5, .c (I i))], o := [(2, ⟨x.1, 7, true, true, [encBox b]⟩)], n := x.2 }
def st0E (b : Box) (time : Int) (x : Nat × Nat) : St := { t := [(1, .c (I time)), (2, .c (.ptr 2 x.1 0 0)), (5, .c (I b.mails.length)), (16, .c (.bool false))], o := [(2, ⟨x.1, 7, true, true, [encBox b]⟩)], n := x.2 }
def st1S (b : Box) (time : Int) (i : Nat) (k : Nat) (x : Nat × Nat) : St := { t := [(1, .c (I time)), (2, .c (.ptr 2 x.1 0 0)), (5, .c (I i)), (6, .c (I k))], o := [(2, ⟨x.1, 7, true, true, [encBox b]⟩)], n := x.2 }
def st1E (b : Box) (time : Int) (i : Nat) (k : Nat) (x : Nat × Nat) : St := { t := [(1, .c (I time)), (2, .c (.ptr 2 x.1 0 0)), (5, .c (I i)), (6, .c (I k)), (27, .c (.bool false))], o := [(2, ⟨x.1, 7, true, true, [encBox b]⟩)], n := x.2 }
theorem spec_l07Times.inner (b : Box) (time : Int) (i K : Nat) (hi : i < b.mails.length) (hl : b.mails[i].flags.length ≤ 1048576) : ∃ g : Nat × Nat → (Nat × Nat) × Nat, ∀ x, loopN (exC (run M) K spec_l07Times.l1) (b.mails[i].flags.length + 1) (st1S b time i 0 x) = some (fin1 4 (.bool false) 2 (st1E b time i b.mails[i].flags.length) (firstN (atP (fun r => decide (time < r.time)) b.mails[i].flags) b.mails[i].flags.length) (g x)) :=
  early_loop b.mails[i].flags.length (atP (fun r => decide (time < r.time)) b.mails[i].flags) (st1S b time i) 4 (.bool false) 2 (st1E b time i b.mails[i].flags.length)
    (fun k hk x c => by
      obtain ⟨v, x⟩ := x
      rw [atP_at hk, decide_eq_false_iff_not] at c
      have e5 : IntKind.i64.wrap ((k : Int) + 1) = (k : Int) + 1 := wrap_i64 (by omega) (by omega)
      simp only [Prod.exists]
      simp (maxSteps := 1000000) [spec_l07Times.l1, List.range_succ, bs_get, setAt, st1S, hi, hk, c, encReg, encMail, e5])
    (fun k hk x c => by
      obtain ⟨v, x⟩ := x
      rw [atP_at hk, decide_eq_true_eq] at c
      simp (maxSteps := 1000000) [spec_l07Times.l1, List.range_succ, bs_get, setAt, st1S, hi, hk, c, encReg, encMail])
    (fun x => by
      obtain ⟨v, x⟩ := x
      simp only [Prod.exists]
      simp (maxSteps := 1000000) [spec_l07Times.l1, List.range_succ, bs_get, setAt, st1S, st1E, hi, encMail])
theorem spec_l07Times.says (h : spec_l07Times.k M) (b : Box) (time : Int) (hb : b.mails.length ≤ 1048576) (hf : ∀ m ∈ b.mails, m.flags.length ≤ 1048576) : run M 227 [.a (encBox b), .c (I time)] [] = some (.c (.bool (!late b time)), []) := by
  refine run_code (b := spec_l07Times.m) h ⟨b.mails.length + 1048577, ?_⟩
  obtain ⟨K, hK⟩ : ∃ K, b.mails.length + 1048577 = K := ⟨_, rfl⟩
  rw [hK]
  obtain ⟨g, hr⟩ := early_loop (f := exC (run M) K spec_l07Times.l0) b.mails.length (atP (lateM time) b.mails) (st0S b time) 4 (.bool false) 0 (st0E b time)
    (fun i hi x c => by
      obtain ⟨v, x⟩ := x
      rw [atP_at hi, lateM] at c
      have e5 : IntKind.i64.wrap ((i : Int) + 1) = (i : Int) + 1 := wrap_i64 (by omega) (by omega)
      have hfl := hf _ (List.getElem_mem hi)
      obtain ⟨g, hr⟩ := spec_l07Times.inner (M := M) b time i K hi hfl
      rw [any_none c] at hr
      have hr2 := fun x => loopN_le (hr x) (show b.mails[i].flags.length + 1 ≤ K by omega)
      simp [st1S, st1E, fin1] at hr2
      simp only [Prod.exists]
      simp (maxSteps := 1000000) [spec_l07Times.l0, List.range_succ, bs_get, setAt, st0S, hi, encMail, e5, hr2])
    (fun i hi x c => by
      obtain ⟨v, x⟩ := x
      rw [atP_at hi, lateM] at c
      have hfl := hf _ (List.getElem_mem hi)
      obtain ⟨g, hr⟩ := spec_l07Times.inner (M := M) b time i K hi hfl
      obtain ⟨k, hk⟩ := any_some c
      rw [hk] at hr
      have hr2 := fun x => loopN_le (hr x) (show b.mails[i].flags.length + 1 ≤ K by omega)
      simp [st1S, fin1] at hr2
      simp (maxSteps := 1000000) [spec_l07Times.l0, List.range_succ, bs_get, setAt, st0S, hi, encMail, hr2])
    (fun x => by
      obtain ⟨v, x⟩ := x
      simp only [Prod.exists]
      simp (maxSteps := 1000000) [spec_l07Times.l0, List.range_succ, bs_get, setAt, st0S, st0E])
  have hr2 := fun x => loopN_le (hr x) (show b.mails.length + 1 ≤ K by omega)
  unfold late
  by_cases c0 : time < b.time
  · simp (maxSteps := 1000000) [exB, spec_l07Times.m, spec_l07Times.b, List.range_succ, bs_get, setAt, c0]
  cases c : b.mails.any (lateM time)
  · rw [any_none c] at hr2
    simp [st0S, st0E, fin1] at hr2
    simp (maxSteps := 1000000) [exB, spec_l07Times.m, spec_l07Times.b, List.range_succ, bs_get, setAt, hr2, c0]
  · obtain ⟨k, hk⟩ := any_some c
    rw [hk] at hr2
    simp [st0S, fin1] at hr2
    simp (maxSteps := 1000000) [exB, spec_l07Times.m, spec_l07Times.b, List.range_succ, bs_get, setAt, hr2, c0]
end Mx

/-
  What is right: stores, both sides.
-/
namespace Mx
open Go
variable {M : Nat → Option Body}
def gidsOf (b : Box) : List Int := b.mails.map (·.gid)
def seenAt (s : Store) (i : Nat) : List Int := (s.boxes.take i).flatMap gidsOf
theorem seenAt_succ {s : Store} {i : Nat} (h : i < s.boxes.length) : seenAt s (i + 1) = seenAt s i ++ gidsOf s.boxes[i] := by
  rw [seenAt, seenAt, List.take_succ_eq_append_getElem h, List.flatMap_append]; simp
def dupAt (seen l : List Int) (k : Nat) : Bool := match l[k]? with
  | some g => decide (g ∈ seen ++ l.take k)
  | none => false
theorem dupAt_at {seen l : List Int} {k : Nat} (h : k < l.length) : dupAt seen l k = decide (l[k] ∈ seen ++ l.take k) := by simp [dupAt, h]
def dups (seen l : List Int) : Bool := (firstN (dupAt seen l) l.length).isSome
def badBox (s : Store) (i : Nat) : Bool := match s.boxes[i]? with
  | some b => !boxOk b || (decide (0 < i) && match s.boxes[i - 1]? with | some p => decide (b.gid ≤ p.gid) | none => false) || !decide (intO (named s.boxes b.name) = (i : Int)) || decide (b.gid ∈ s.gone) || late b s.time
  | none => false
theorem badBox_at {s : Store} {i : Nat} (h : i < s.boxes.length) : badBox s i = (!boxOk s.boxes[i] || (decide (0 < i) && decide (s.boxes[i].gid ≤ s.boxes[i - 1].gid)) || !decide (intO (named s.boxes s.boxes[i].name) = (i : Int)) ||
    decide (s.boxes[i].gid ∈ s.gone) || late s.boxes[i] s.time) := by simp [badBox, h, (show i - 1 < s.boxes.length by omega)]
def badAt (s : Store) (i : Nat) : Bool := badBox s i || match s.boxes[i]? with
  | some b => dups (seenAt s i) (gidsOf b)
  | none => false
theorem badAt_at {s : Store} {i : Nat} (h : i < s.boxes.length) : badAt s i = (badBox s i || dups (seenAt s i) (gidsOf s.boxes[i])) := by simp [badAt, h]
def storeOk (s : Store) : Bool := inR 1 s.who 2 && inR 0 s.time 100000 && decide (s.boxes.length ≤ 5) && gidsOk s.gone 20 && (firstN (badAt s) s.boxes.length).isNone
/-- small enough to be walked -/
structure BoxIn (b : Box) : Prop where
  m : b.mails.length ≤ 1048576
  g : b.gone.length ≤ 1048576
  n : b.name.length ≤ 1048576
  f : ∀ m ∈ b.mails, m.flags.length ≤ 1048576
structure StoreIn (s : Store) : Prop where
  b : s.boxes.length ≤ 1048576
  g : s.gone.length ≤ 1048576
  i : ∀ b ∈ s.boxes, BoxIn b
  s : (s.boxes.flatMap gidsOf).length ≤ 1048576
theorem seenAt_le {s : Store} (h : StoreIn s) (i : Nat) : (seenAt s i).length ≤ 1048576 := by
  refine Nat.le_trans ?_ h.s
  conv => rhs; rw [← List.take_append_drop i s.boxes]
  rw [List.flatMap_append, List.length_append]
  exact Nat.le_add_right _ _
def soO (s : Store) (seen : List Int) (x : Nat × Nat × Nat) : List (Nat × Ob) := [(1, ⟨x.1, 4, true, true, [encStore s]⟩), (30, ⟨x.2.1, 1, true, false, irow seen⟩)]
def so0S (s : Store) (i : Nat) (x : Nat × Nat × Nat) : St := { t := [(1, .c (.ptr 1 x.1 0 0)), (3, .c (.row 30 x.2.1 0 (seenAt s i).length)), (32, .c (boxes s.boxes)), (33, .c (I s.boxes.length)), (34, .c (I i))], o := soO s (seenAt s i) x, n := x.2.2 }
def so0E (s : Store) (x : Nat × Nat × Nat) : St := { t := [(1, .c (.ptr 1 x.1 0 0)), (3, .c (.row 30 x.2.1 0 (seenAt s s.boxes.length).length)), (32, .c (boxes s.boxes)), (33, .c (I s.boxes.length)), (34, .c (I s.boxes.length)), (35, .c (.bool false))], o := soO s (seenAt s s.boxes.length) x, n := x.2.2 }
def so1S (s : Store) (b : Box) (seen : List Int) (i k : Nat) (x : Nat × Nat × Nat) : St := { t := [(1, .c (.ptr 1 x.1 0 0)), (3, .c (.row 30 x.2.1 0 (seen.length + k))), (32, .c (boxes s.boxes)), (33, .c (I s.boxes.length)), (34, .c (I i)), (80, .c (mails b.mails)), (81, .c (I b.mails.length)), (82, .c (I k))], o := soO s (seen ++ (gidsOf b).take k) x, n := x.2.2 }
def so1E (s : Store) (b : Box) (seen : List Int) (i : Nat) (x : Nat × Nat × Nat) : St := { t := [(1, .c (.ptr 1 x.1 0 0)), (3, .c (.row 30 x.2.1 0 (seen.length + b.mails.length))), (32, .c (boxes s.boxes)), (33, .c (I s.boxes.length)), (34, .c (I i)), (80, .c (mails b.mails)), (81, .c (I b.mails.length)), (82, .c (I b.mails.length)), (83, .c (.bool false))], o := soO s (seen ++ gidsOf b) x, n := x.2.2 }
theorem gidsOf_len (b : Box) : (gidsOf b).length = b.mails.length := by simp [gidsOf]
theorem gidsOf_at (b : Box) (k : Nat) (h : k < (gidsOf b).length) : (gidsOf b)[k] = (b.mails[k]'(by simpa [gidsOf] using h)).gid := by simp [gidsOf]
theorem impl_StoreOk.inner (hin : slices_Contains_int_int.k M) (s : Store) (b : Box) (seen : List Int) (i K : Nat) (hl : b.mails.length ≤ 1048576) (hs : seen.length ≤ 1048576) :
    ∃ g : Nat × Nat × Nat → (Nat × Nat × Nat) × Nat, ∀ x, loopN (exC (run M) K impl_StoreOk.l1) (b.mails.length + 1) (so1S s b seen i 0 x) = some (fin1 2 (.bool false) 2 (so1E s b seen i) (firstN (dupAt seen (gidsOf b)) b.mails.length) (g x)) :=
  early_loop b.mails.length (dupAt seen (gidsOf b)) (so1S s b seen i) 2 (.bool false) 2 (so1E s b seen i)
    (fun k hk x c => by
      obtain ⟨v, w, x⟩ := x
      have hk' : k < (gidsOf b).length := by rw [gidsOf_len]; exact hk
      rw [dupAt_at hk'] at c
      have hlen : (seen ++ (gidsOf b).take k).length = seen.length + k := by rw [List.length_append, List.length_take, Nat.min_eq_left (by omega)]
      have h1 := slices_Contains_int_int.says hin (seen ++ (gidsOf b).take k) (gidsOf b)[k] (by rw [hlen]; omega)
      rw [c] at h1
      rw [gidsOf_at] at h1
      simp only [ints] at h1
      have e5 : IntKind.i64.wrap ((k : Int) + 1) = (k : Int) + 1 := wrap_i64 (by omega) (by omega)
      have e6 : seen.length + (k + 1) ≤ 4294967296 := by omega
      have e7 : seen ++ (gidsOf b).take (k + 1) = (seen ++ (gidsOf b).take k) ++ [b.mails[k].gid] := by rw [List.take_succ_eq_append_getElem hk', gidsOf_at, List.append_assoc]
      have e8 : irow ((seen ++ (gidsOf b).take k) ++ [b.mails[k].gid]) = irow (seen ++ (gidsOf b).take k) ++ [[I b.mails[k].gid]] := by simp [irow]
      have e9 : (irow (seen ++ (gidsOf b).take k)).length = seen.length + k := by simp only [irow, List.length_map]; exact hlen
      simp only [Prod.exists, so1S, soO, e7, e8]
      generalize irow (seen ++ (gidsOf b).take k) = rr at *
      simp (maxSteps := 1000000) [impl_StoreOk.l1, List.range_succ, bs_get, setAt, hk, h1, encMail, e5, e6, e9, List.take_of_length_le, Nat.add_assoc])
    (fun k hk x c => by
      obtain ⟨v, w, x⟩ := x
      have hk' : k < (gidsOf b).length := by rw [gidsOf_len]; exact hk
      rw [dupAt_at hk'] at c
      have hlen : (seen ++ (gidsOf b).take k).length = seen.length + k := by rw [List.length_append, List.length_take, Nat.min_eq_left (by omega)]
      have h1 := slices_Contains_int_int.says hin (seen ++ (gidsOf b).take k) (gidsOf b)[k] (by rw [hlen]; omega)
      rw [c] at h1
      rw [gidsOf_at] at h1
      simp only [ints] at h1
      have e9 : (irow (seen ++ (gidsOf b).take k)).length = seen.length + k := by simp only [irow, List.length_map]; exact hlen
      simp only [so1S, soO]
      generalize irow (seen ++ (gidsOf b).take k) = rr at *
      simp (maxSteps := 1000000) [impl_StoreOk.l1, List.range_succ, bs_get, setAt, hk, h1, encMail, e9, List.take_of_length_le])
    (fun x => by
      obtain ⟨v, w, x⟩ := x
      have e7 : (gidsOf b).take b.mails.length = gidsOf b := List.take_of_length_le (by rw [gidsOf_len]; omega)
      simp only [Prod.exists, so1S, so1E, soO, e7]
      simp (maxSteps := 1000000) [impl_StoreOk.l1, List.range_succ, bs_get, setAt])
theorem BoxIn.ok {b : Box} (h : BoxIn b) : b.mails.length ≤ 1048576 ∧ b.gone.length ≤ 4611686018427387904 ∧ b.name.length ≤ 4611686018427387904 ∧ ∀ m ∈ b.mails, m.flags.length ≤ 1048576 := ⟨h.m, by have := h.g; omega, by have := h.n; omega, h.f⟩
structure impl_StoreOk.ks (M : Nat → Option Body) : Prop where
  box : impl_BoxOk.k M
  con : slices_Contains_int_int.k M
  nam : impl_BoxNamed.k M
  lat : impl_isLate.k M
theorem impl_StoreOk.good (h : impl_StoreOk.ks M) (s : Store) (hs : StoreIn s) (K : Nat) (hK : 2000000 ≤ K) (i : Nat) (hi : i < s.boxes.length) (x : Nat × Nat × Nat) (c : badAt s i = false) :
    ∃ y, exC (run M) K impl_StoreOk.l0 (so0S s i x) = some (.normal, so0S s (i + 1) y) := by
  have hb := hs.i _ (List.getElem_mem hi)
  have h1 := impl_BoxOk.says h.box s.boxes[i] hb.ok.1 hb.ok.2.1 hb.ok.2.2.1 hb.ok.2.2.2
  have h2 := impl_BoxNamed.says h.nam s s.boxes[i].name hs.b
  have h3 := slices_Contains_int_int.says h.con s.gone s.boxes[i].gid (by have := hs.g; omega)
  have h4 := impl_isLate.says h.lat s.boxes[i] s.time hb.m hb.f
  have hsl := seenAt_le hs i
  obtain ⟨g, hr⟩ := impl_StoreOk.inner h.con s s.boxes[i] (seenAt s i) i K hb.m hsl
  have hr2 := fun x => loopN_le (hr x) (show s.boxes[i].mails.length + 1 ≤ K by have := hb.m; omega)
  rw [badAt_at hi, badBox_at hi] at c
  simp only [Bool.or_eq_false_iff, Bool.and_eq_false_iff, Bool.not_eq_false', decide_eq_false_iff_not, decide_eq_true_eq] at c
  obtain ⟨⟨⟨⟨⟨c1, c2⟩, c3⟩, c4⟩, c5⟩, c6⟩ := c
  have e5 : IntKind.i64.wrap ((i : Int) + 1) = (i : Int) + 1 := wrap_i64 (by have := hs.b; omega) (by have := hs.b; omega)
  rw [c1] at h1
  rw [c3] at h2
  rw [decide_eq_false c4] at h3
  rw [c5] at h4
  have q : firstN (dupAt (seenAt s i) (gidsOf s.boxes[i])) s.boxes[i].mails.length = none := by
    unfold dups at c6; rw [gidsOf_len] at c6; simpa using c6
  rw [q] at hr2
  obtain ⟨v, w, x⟩ := x
  simp only [encBox, encStore] at h1 h2 h4
  simp only [ints] at h3
  have hz : irow (seenAt s i ++ gidsOf s.boxes[i]) = irow (seenAt s i) ++ irow (gidsOf s.boxes[i]) := by simp [irow]
  simp [so1S, so1E, soO, fin1] at hr2
  simp only [so0S, soO, seenAt_succ hi, Prod.exists]
  have hgl := gidsOf_len s.boxes[i]
  by_cases c7 : 0 < i
  · have e6 : IntKind.i64.wrap ((i : Int) - 1) = ((i - 1 : Nat) : Int) := by rw [wrap_i64 (by have := hs.b; omega) (by have := hs.b; omega)]; omega
    have c2' : ¬ s.boxes[i].gid ≤ s.boxes[i - 1].gid := by
      rcases c2 with c2 | c2
      · exact absurd c7 c2
      · exact c2
    simp (maxSteps := 1000000) [impl_StoreOk.l0, List.range_succ, bs_get, setAt, hi, h1, h2, h3, h4, c7, c2', e5, e6, hr2, hgl, encBox, (show i - 1 < s.boxes.length by omega)]
  · simp (maxSteps := 1000000) [impl_StoreOk.l0, List.range_succ, bs_get, setAt, hi, h1, h2, h3, h4, c7, e5, hr2, hgl, encBox]
theorem impl_StoreOk.bad (h : impl_StoreOk.ks M) (s : Store) (hs : StoreIn s) (K : Nat) (hK : 2000000 ≤ K) (i : Nat) (hi : i < s.boxes.length) (x : Nat × Nat × Nat) (c : badAt s i = true) :
    ∃ k, exC (run M) K impl_StoreOk.l0 (so0S s i x) = some (.ret, { t := [(2, .c (.bool false))], o := [], n := k }) := by
  have hb := hs.i _ (List.getElem_mem hi)
  have h1 := impl_BoxOk.says h.box s.boxes[i] hb.ok.1 hb.ok.2.1 hb.ok.2.2.1 hb.ok.2.2.2
  have h2 := impl_BoxNamed.says h.nam s s.boxes[i].name hs.b
  have h3 := slices_Contains_int_int.says h.con s.gone s.boxes[i].gid (by have := hs.g; omega)
  have h4 := impl_isLate.says h.lat s.boxes[i] s.time hb.m hb.f
  have hsl := seenAt_le hs i
  obtain ⟨g, hr⟩ := impl_StoreOk.inner h.con s s.boxes[i] (seenAt s i) i K hb.m hsl
  have hr2 := fun x => loopN_le (hr x) (show s.boxes[i].mails.length + 1 ≤ K by have := hb.m; omega)
  rw [badAt_at hi, badBox_at hi] at c
  obtain ⟨v, w, x⟩ := x
  simp only [encBox, encStore] at h1 h2 h4
  simp only [ints] at h3
  simp only [so0S, soO]
  cases c1 : boxOk s.boxes[i]
  · rw [c1] at h1
    simp (maxSteps := 1000000) [impl_StoreOk.l0, List.range_succ, bs_get, setAt, hi, h1, encBox]
  rw [c1] at h1
  have tail : ∀ (hp : ¬ 0 < i ∨ ¬ s.boxes[i].gid ≤ s.boxes[i - 1].gid), ∃ k, exC (run M) K impl_StoreOk.l0 { t := [(1, .c (.ptr 1 v 0 0)), (3, .c (.row 30 w 0 (seenAt s i).length)), (32, .c (boxes s.boxes)), (33, .c (I s.boxes.length)), (34, .c (I i))], o := [(1, ⟨v, 4, true, true, [encStore s]⟩), (30, ⟨w, 1, true, false, irow (seenAt s i)⟩)], n := x } = some (.ret, { t := [(2, .c (.bool false))], o := [], n := k }) := by
    intro hp
    have hpp : (decide (0 < i) && decide (s.boxes[i].gid ≤ s.boxes[i - 1].gid)) = false := by
      rcases hp with hp | hp <;> simp [hp]
    have key : (∀ (Q : Prop), (0 < i → ¬ s.boxes[i].gid ≤ s.boxes[i - 1].gid → Q) → (¬ 0 < i → Q) → Q) := by
      intro Q q1 q2
      by_cases c7 : 0 < i
      · rcases hp with hp | hp
        · exact absurd c7 hp
        · exact q1 c7 hp
      · exact q2 c7
    have e6 : 0 < i → IntKind.i64.wrap ((i : Int) - 1) = ((i - 1 : Nat) : Int) := fun c7 => by rw [wrap_i64 (by have := hs.b; omega) (by have := hs.b; omega)]; omega
    have hi1 : i - 1 < s.boxes.length := by omega
    by_cases c3 : intO (named s.boxes s.boxes[i].name) = (i : Int)
    rotate_left
    · exact key _ (fun c7 c2 => by simp (maxSteps := 1000000) [impl_StoreOk.l0, List.range_succ, bs_get, setAt, hi, h1, h2, c7, c2, c3, e6 c7, encBox, hi1]) (fun c7 => by simp (maxSteps := 1000000) [impl_StoreOk.l0, List.range_succ, bs_get, setAt, hi, h1, h2, c7, c3, encBox])
    rw [c3] at h2
    by_cases c4 : s.boxes[i].gid ∈ s.gone
    · rw [decide_eq_true c4] at h3
      exact key _ (fun c7 c2 => by simp (maxSteps := 1000000) [impl_StoreOk.l0, List.range_succ, bs_get, setAt, hi, h1, h2, h3, c7, c2, c3, e6 c7, encBox, hi1]) (fun c7 => by simp (maxSteps := 1000000) [impl_StoreOk.l0, List.range_succ, bs_get, setAt, hi, h1, h2, h3, c7, c3, encBox])
    rw [decide_eq_false c4] at h3
    cases c5 : late s.boxes[i] s.time
    rotate_left
    · rw [c5] at h4
      exact key _ (fun c7 c2 => by simp (maxSteps := 1000000) [impl_StoreOk.l0, List.range_succ, bs_get, setAt, hi, h1, h2, h3, h4, c7, c2, c3, e6 c7, encBox, hi1]) (fun c7 => by simp (maxSteps := 1000000) [impl_StoreOk.l0, List.range_succ, bs_get, setAt, hi, h1, h2, h3, h4, c7, c3, encBox])
    rw [c5] at h4
    have c6 : dups (seenAt s i) (gidsOf s.boxes[i]) = true := by
      rw [c1, hpp, c3, c5] at c
      simpa [c4] using c
    obtain ⟨k, hk⟩ : ∃ k, firstN (dupAt (seenAt s i) (gidsOf s.boxes[i])) s.boxes[i].mails.length = some k := by
      unfold dups at c6; rw [gidsOf_len] at c6; exact Option.isSome_iff_exists.1 c6
    rw [hk] at hr2
    simp [so1S, soO, fin1] at hr2
    have hgl := gidsOf_len s.boxes[i]
    exact key _ (fun c7 c2 => by simp (maxSteps := 1000000) [impl_StoreOk.l0, List.range_succ, bs_get, setAt, hi, h1, h2, h3, h4, c7, c2, c3, e6 c7, hr2, encBox, hi1]) (fun c7 => by simp (maxSteps := 1000000) [impl_StoreOk.l0, List.range_succ, bs_get, setAt, hi, h1, h2, h3, h4, c7, c3, hr2, encBox])
  by_cases c7 : 0 < i
  · by_cases c2 : s.boxes[i].gid ≤ s.boxes[i - 1].gid
    · have e6 : IntKind.i64.wrap ((i : Int) - 1) = ((i - 1 : Nat) : Int) := by rw [wrap_i64 (by have := hs.b; omega) (by have := hs.b; omega)]; omega
      simp (maxSteps := 1000000) [impl_StoreOk.l0, List.range_succ, bs_get, setAt, hi, h1, c7, c2, e6, encBox, (show i - 1 < s.boxes.length by omega)]
    · exact tail (.inr c2)
  · exact tail (.inl c7)
theorem impl_StoreOk.says (h : impl_StoreOk.k M) (s : Store) (hs : StoreIn s) : run M 150 [.a (encStore s)] [] = some (.c (.bool (storeOk s)), []) := by
  obtain ⟨h0, k1, k2, k3, k4, k5, k6⟩ := h
  have h1 := impl_within.inR k2 s.who 1 2
  have h2 := impl_within.inR k2 s.time 0 100000
  have h3 := impl_areGids.says k4 s.gone 20 (by have := hs.g; omega)
  refine run_code (b := impl_StoreOk.m) h0 ⟨4000000, ?_⟩
  obtain ⟨K, hK⟩ : ∃ K, 4000000 = K := ⟨_, rfl⟩
  rw [hK]
  obtain ⟨g, hr⟩ := early_loop (f := exC (run M) K impl_StoreOk.l0) s.boxes.length (badAt s) (so0S s) 2 (.bool false) 0 (so0E s)
    (fun i hi x c => impl_StoreOk.good ⟨k1, k3, k5, k6⟩ s hs K (by omega) i hi x c)
    (fun i hi x c => impl_StoreOk.bad ⟨k1, k3, k5, k6⟩ s hs K (by omega) i hi x c)
    (fun x => by
      obtain ⟨v, w, x⟩ := x
      simp only [Prod.exists]
      simp (maxSteps := 1000000) [impl_StoreOk.l0, List.range_succ, bs_get, setAt, so0S, so0E, soO])
  have hr2 := fun x => loopN_le (hr x) (show s.boxes.length + 1 ≤ K by have := hs.b; omega)
  cases c1 : inR 1 s.who 2
  · simp (maxSteps := 1000000) [exB, impl_StoreOk.m, impl_StoreOk.b, List.range_succ, bs_get, setAt, h1, c1, storeOk]
  cases c2 : inR 0 s.time 100000
  · simp (maxSteps := 1000000) [exB, impl_StoreOk.m, impl_StoreOk.b, List.range_succ, bs_get, setAt, h1, h2, c1, c2, storeOk]
  by_cases c3 : 5 < s.boxes.length
  · have c3' : ¬ s.boxes.length ≤ 5 := by omega
    have ci : (5 : Int) < s.boxes.length := by omega
    simp (maxSteps := 1000000) [exB, impl_StoreOk.m, impl_StoreOk.b, List.range_succ, bs_get, setAt, h1, h2, c1, c2, c3', ci, storeOk]
  have c3' : s.boxes.length ≤ 5 := by omega
  have ci : ¬ (5 : Int) < s.boxes.length := by omega
  cases c4 : gidsOk s.gone 20
  · simp (maxSteps := 1000000) [exB, impl_StoreOk.m, impl_StoreOk.b, List.range_succ, bs_get, setAt, h1, h2, h3, c1, c2, ci, c4, storeOk]
  have hz : seenAt s 0 = [] := by simp [seenAt]
  cases q : firstN (badAt s) s.boxes.length with
  | none =>
    simp [so0S, so0E, soO, q, fin1, hz, irow] at hr2
    simp (maxSteps := 1000000) [exB, impl_StoreOk.m, impl_StoreOk.b, List.range_succ, bs_get, setAt, h1, h2, h3, c1, c2, c3', ci, c4, hr2, storeOk, q]
  | some k =>
    simp [so0S, soO, q, fin1, hz, irow] at hr2
    simp (maxSteps := 1000000) [exB, impl_StoreOk.m, impl_StoreOk.b, List.range_succ, bs_get, setAt, h1, h2, h3, c1, c2, c3', ci, c4, hr2, storeOk, q]
/-! ## the other side -/
def spO (s : Store) (seen : List Int) (x : Nat × Nat × Nat) : List (Nat × Ob) := [(1, ⟨x.1, 4, true, true, [encStore s]⟩), (29, ⟨x.2.1, 1, true, false, irow seen⟩)]
def sp0S (s : Store) (i : Nat) (x : Nat × Nat × Nat) : St := { t := [(1, .c (.ptr 1 x.1 0 0)), (3, .c (.row 29 x.2.1 0 (seenAt s i).length)), (4, .c (I i))], o := spO s (seenAt s i) x, n := x.2.2 }
def sp0E (s : Store) (x : Nat × Nat × Nat) : St := { t := [(1, .c (.ptr 1 x.1 0 0)), (3, .c (.row 29 x.2.1 0 (seenAt s s.boxes.length).length)), (4, .c (I s.boxes.length)), (34, .c (.bool false))], o := spO s (seenAt s s.boxes.length) x, n := x.2.2 }
def sp1O (s : Store) (b : Box) (seen : List Int) (x : Nat × Nat × Nat × Nat) : List (Nat × Ob) := [(1, ⟨x.1, 4, true, true, [encStore s]⟩), (5, ⟨x.2.2.1, 7, true, true, [encBox b]⟩), (29, ⟨x.2.1, 1, true, false, irow seen⟩)]
def sp1S (s : Store) (b : Box) (seen : List Int) (i k : Nat) (x : Nat × Nat × Nat × Nat) : St := { t := [(1, .c (.ptr 1 x.1 0 0)), (3, .c (.row 29 x.2.1 0 (seen.length + k))), (4, .c (I i)), (5, .c (.ptr 5 x.2.2.1 0 0)), (6, .c (I k))], o := sp1O s b (seen ++ (gidsOf b).take k) x, n := x.2.2.2 }
def sp1E (s : Store) (b : Box) (seen : List Int) (i : Nat) (x : Nat × Nat × Nat × Nat) : St := { t := [(1, .c (.ptr 1 x.1 0 0)), (3, .c (.row 29 x.2.1 0 (seen.length + b.mails.length))), (4, .c (I i)), (5, .c (.ptr 5 x.2.2.1 0 0)), (6, .c (I b.mails.length)), (87, .c (.bool false))], o := sp1O s b (seen ++ gidsOf b) x, n := x.2.2.2 }
theorem spec_StoreOk.inner (hin : spec_l06In.k M) (s : Store) (b : Box) (seen : List Int) (i K : Nat) (hl : b.mails.length ≤ 1048576) (hs : seen.length ≤ 1048576) :
    ∃ g : Nat × Nat × Nat × Nat → (Nat × Nat × Nat × Nat) × Nat, ∀ x, loopN (exC (run M) K spec_StoreOk.l1) (b.mails.length + 1) (sp1S s b seen i 0 x) = some (fin1 2 (.bool false) 2 (sp1E s b seen i) (firstN (dupAt seen (gidsOf b)) b.mails.length) (g x)) :=
  early_loop b.mails.length (dupAt seen (gidsOf b)) (sp1S s b seen i) 2 (.bool false) 2 (sp1E s b seen i)
    (fun k hk x c => by
      obtain ⟨v, w, z, x⟩ := x
      have hk' : k < (gidsOf b).length := by rw [gidsOf_len]; exact hk
      rw [dupAt_at hk'] at c
      have hlen : (seen ++ (gidsOf b).take k).length = seen.length + k := by rw [List.length_append, List.length_take, Nat.min_eq_left (by omega)]
      have h1 := spec_l06In.says hin (seen ++ (gidsOf b).take k) (gidsOf b)[k] (by rw [hlen]; omega)
      rw [c] at h1
      rw [gidsOf_at] at h1
      simp only [ints] at h1
      have e5 : IntKind.i64.wrap ((k : Int) + 1) = (k : Int) + 1 := wrap_i64 (by omega) (by omega)
      have e6 : seen.length + (k + 1) ≤ 4294967296 := by omega
      have e7 : seen ++ (gidsOf b).take (k + 1) = (seen ++ (gidsOf b).take k) ++ [b.mails[k].gid] := by rw [List.take_succ_eq_append_getElem hk', gidsOf_at, List.append_assoc]
      have e8 : irow ((seen ++ (gidsOf b).take k) ++ [b.mails[k].gid]) = irow (seen ++ (gidsOf b).take k) ++ [[I b.mails[k].gid]] := by simp [irow]
      have e9 : (irow (seen ++ (gidsOf b).take k)).length = seen.length + k := by simp only [irow, List.length_map]; exact hlen
      simp only [Prod.exists, sp1S, sp1O, e7, e8]
      generalize irow (seen ++ (gidsOf b).take k) = rr at *
      simp (maxSteps := 1000000) [spec_StoreOk.l1, List.range_succ, bs_get, setAt, hk, h1, encMail, e5, e6, e9, List.take_of_length_le, Nat.add_assoc]
      exact ⟨_, _, _, ⟨rfl, rfl, rfl⟩, rfl, rfl, rfl⟩)
    (fun k hk x c => by
      obtain ⟨v, w, z, x⟩ := x
      have hk' : k < (gidsOf b).length := by rw [gidsOf_len]; exact hk
      rw [dupAt_at hk'] at c
      have hlen : (seen ++ (gidsOf b).take k).length = seen.length + k := by rw [List.length_append, List.length_take, Nat.min_eq_left (by omega)]
      have h1 := spec_l06In.says hin (seen ++ (gidsOf b).take k) (gidsOf b)[k] (by rw [hlen]; omega)
      rw [c] at h1
      rw [gidsOf_at] at h1
      simp only [ints] at h1
      have e9 : (irow (seen ++ (gidsOf b).take k)).length = seen.length + k := by simp only [irow, List.length_map]; exact hlen
      simp only [sp1S, sp1O]
      generalize irow (seen ++ (gidsOf b).take k) = rr at *
      simp (maxSteps := 1000000) [spec_StoreOk.l1, List.range_succ, bs_get, setAt, hk, h1, encMail, e9, List.take_of_length_le])
    (fun x => by
      obtain ⟨v, w, z, x⟩ := x
      have e7 : (gidsOf b).take b.mails.length = gidsOf b := List.take_of_length_le (by rw [gidsOf_len]; omega)
      simp only [Prod.exists, sp1S, sp1E, sp1O, e7]
      simp (maxSteps := 1000000) [spec_StoreOk.l1, List.range_succ, bs_get, setAt]
      exact ⟨_, _, _, ⟨rfl, rfl, rfl⟩, rfl, rfl, rfl⟩)
structure spec_StoreOk.ks (M : Nat → Option Body) : Prop where
  box : spec_BoxOk.k M
  con : spec_l06In.k M
  nam : spec_BoxNamed.k M
  lat : spec_l07Times.k M
theorem spec_StoreOk.good (h : spec_StoreOk.ks M) (s : Store) (hs : StoreIn s) (K : Nat) (hK : 2000000 ≤ K) (i : Nat) (hi : i < s.boxes.length) (x : Nat × Nat × Nat) (c : badAt s i = false) :
    ∃ y, exC (run M) K spec_StoreOk.l0 (sp0S s i x) = some (.normal, sp0S s (i + 1) y) := by
  have hb := hs.i _ (List.getElem_mem hi)
  have h1 := spec_BoxOk.says h.box s.boxes[i] hb.ok.1 hb.ok.2.1 hb.ok.2.2.1 hb.ok.2.2.2
  have h2 := spec_BoxNamed.says h.nam s s.boxes[i].name hs.b
  have h3 := spec_l06In.says h.con s.gone s.boxes[i].gid (by have := hs.g; omega)
  have h4 := spec_l07Times.says h.lat s.boxes[i] s.time hb.m hb.f
  have hsl := seenAt_le hs i
  obtain ⟨g, hr⟩ := spec_StoreOk.inner h.con s s.boxes[i] (seenAt s i) i K hb.m hsl
  have hr2 := fun x => loopN_le (hr x) (show s.boxes[i].mails.length + 1 ≤ K by have := hb.m; omega)
  rw [badAt_at hi, badBox_at hi] at c
  simp only [Bool.or_eq_false_iff, Bool.and_eq_false_iff, Bool.not_eq_false', decide_eq_false_iff_not, decide_eq_true_eq] at c
  obtain ⟨⟨⟨⟨⟨c1, c2⟩, c3⟩, c4⟩, c5⟩, c6⟩ := c
  have e5 : IntKind.i64.wrap ((i : Int) + 1) = (i : Int) + 1 := wrap_i64 (by have := hs.b; omega) (by have := hs.b; omega)
  rw [c1] at h1
  rw [c3] at h2
  rw [decide_eq_false c4] at h3
  rw [c5] at h4
  have q : firstN (dupAt (seenAt s i) (gidsOf s.boxes[i])) s.boxes[i].mails.length = none := by
    unfold dups at c6; rw [gidsOf_len] at c6; simpa using c6
  rw [q] at hr2
  obtain ⟨v, w, x⟩ := x
  simp only [encBox, encStore] at h1 h2 h4
  simp only [ints] at h3
  have hz : irow (seenAt s i ++ gidsOf s.boxes[i]) = irow (seenAt s i) ++ irow (gidsOf s.boxes[i]) := by simp [irow]
  simp [sp1S, sp1E, sp1O, fin1] at hr2
  simp only [sp0S, spO, seenAt_succ hi, Prod.exists]
  have hgl := gidsOf_len s.boxes[i]
  by_cases c7 : 0 < i
  · have e6 : IntKind.i64.wrap ((i : Int) - 1) = ((i - 1 : Nat) : Int) := by rw [wrap_i64 (by have := hs.b; omega) (by have := hs.b; omega)]; omega
    have c2' : ¬ s.boxes[i].gid ≤ s.boxes[i - 1].gid := by
      rcases c2 with c2 | c2
      · exact absurd c7 c2
      · exact c2
    simp (maxSteps := 1000000) [spec_StoreOk.l0, List.range_succ, bs_get, setAt, hi, h1, h2, h3, h4, c7, c2', e5, e6, hr2, hgl, encBox, (show i - 1 < s.boxes.length by omega)]
  · simp (maxSteps := 1000000) [spec_StoreOk.l0, List.range_succ, bs_get, setAt, hi, h1, h2, h3, h4, c7, e5, hr2, hgl, encBox]
theorem spec_StoreOk.bad (h : spec_StoreOk.ks M) (s : Store) (hs : StoreIn s) (K : Nat) (hK : 2000000 ≤ K) (i : Nat) (hi : i < s.boxes.length) (x : Nat × Nat × Nat) (c : badAt s i = true) :
    ∃ k, exC (run M) K spec_StoreOk.l0 (sp0S s i x) = some (.ret, { t := [(2, .c (.bool false))], o := [], n := k }) := by
  have hb := hs.i _ (List.getElem_mem hi)
  have h1 := spec_BoxOk.says h.box s.boxes[i] hb.ok.1 hb.ok.2.1 hb.ok.2.2.1 hb.ok.2.2.2
  have h2 := spec_BoxNamed.says h.nam s s.boxes[i].name hs.b
  have h3 := spec_l06In.says h.con s.gone s.boxes[i].gid (by have := hs.g; omega)
  have h4 := spec_l07Times.says h.lat s.boxes[i] s.time hb.m hb.f
  have hsl := seenAt_le hs i
  obtain ⟨g, hr⟩ := spec_StoreOk.inner h.con s s.boxes[i] (seenAt s i) i K hb.m hsl
  have hr2 := fun x => loopN_le (hr x) (show s.boxes[i].mails.length + 1 ≤ K by have := hb.m; omega)
  rw [badAt_at hi, badBox_at hi] at c
  obtain ⟨v, w, x⟩ := x
  simp only [encBox, encStore] at h1 h2 h4
  simp only [ints] at h3
  simp only [sp0S, spO]
  cases c1 : boxOk s.boxes[i]
  · rw [c1] at h1
    simp (maxSteps := 1000000) [spec_StoreOk.l0, List.range_succ, bs_get, setAt, hi, h1, encBox]
  rw [c1] at h1
  have tail : ∀ (hp : ¬ 0 < i ∨ ¬ s.boxes[i].gid ≤ s.boxes[i - 1].gid), ∃ k, exC (run M) K spec_StoreOk.l0 { t := [(1, .c (.ptr 1 v 0 0)), (3, .c (.row 29 w 0 (seenAt s i).length)), (4, .c (I i))], o := [(1, ⟨v, 4, true, true, [encStore s]⟩), (29, ⟨w, 1, true, false, irow (seenAt s i)⟩)], n := x } = some (.ret, { t := [(2, .c (.bool false))], o := [], n := k }) := by
    intro hp
    have hpp : (decide (0 < i) && decide (s.boxes[i].gid ≤ s.boxes[i - 1].gid)) = false := by
      rcases hp with hp | hp <;> simp [hp]
    have key : (∀ (Q : Prop), (0 < i → ¬ s.boxes[i].gid ≤ s.boxes[i - 1].gid → Q) → (¬ 0 < i → Q) → Q) := by
      intro Q q1 q2
      by_cases c7 : 0 < i
      · rcases hp with hp | hp
        · exact absurd c7 hp
        · exact q1 c7 hp
      · exact q2 c7
    have e6 : 0 < i → IntKind.i64.wrap ((i : Int) - 1) = ((i - 1 : Nat) : Int) := fun c7 => by rw [wrap_i64 (by have := hs.b; omega) (by have := hs.b; omega)]; omega
    have hi1 : i - 1 < s.boxes.length := by omega
    by_cases c3 : intO (named s.boxes s.boxes[i].name) = (i : Int)
    rotate_left
    · exact key _ (fun c7 c2 => by simp (maxSteps := 1000000) [spec_StoreOk.l0, List.range_succ, bs_get, setAt, hi, h1, h2, c7, c2, c3, e6 c7, encBox, hi1]) (fun c7 => by simp (maxSteps := 1000000) [spec_StoreOk.l0, List.range_succ, bs_get, setAt, hi, h1, h2, c7, c3, encBox])
    rw [c3] at h2
    by_cases c4 : s.boxes[i].gid ∈ s.gone
    · rw [decide_eq_true c4] at h3
      exact key _ (fun c7 c2 => by simp (maxSteps := 1000000) [spec_StoreOk.l0, List.range_succ, bs_get, setAt, hi, h1, h2, h3, c7, c2, c3, e6 c7, encBox, hi1]) (fun c7 => by simp (maxSteps := 1000000) [spec_StoreOk.l0, List.range_succ, bs_get, setAt, hi, h1, h2, h3, c7, c3, encBox])
    rw [decide_eq_false c4] at h3
    cases c5 : late s.boxes[i] s.time
    rotate_left
    · rw [c5] at h4
      exact key _ (fun c7 c2 => by simp (maxSteps := 1000000) [spec_StoreOk.l0, List.range_succ, bs_get, setAt, hi, h1, h2, h3, h4, c7, c2, c3, e6 c7, encBox, hi1]) (fun c7 => by simp (maxSteps := 1000000) [spec_StoreOk.l0, List.range_succ, bs_get, setAt, hi, h1, h2, h3, h4, c7, c3, encBox])
    rw [c5] at h4
    have c6 : dups (seenAt s i) (gidsOf s.boxes[i]) = true := by
      rw [c1, hpp, c3, c5] at c
      simpa [c4] using c
    obtain ⟨k, hk⟩ : ∃ k, firstN (dupAt (seenAt s i) (gidsOf s.boxes[i])) s.boxes[i].mails.length = some k := by
      unfold dups at c6; rw [gidsOf_len] at c6; exact Option.isSome_iff_exists.1 c6
    rw [hk] at hr2
    simp [sp1S, sp1O, fin1] at hr2
    have hgl := gidsOf_len s.boxes[i]
    exact key _ (fun c7 c2 => by simp (maxSteps := 1000000) [spec_StoreOk.l0, List.range_succ, bs_get, setAt, hi, h1, h2, h3, h4, c7, c2, c3, e6 c7, hr2, encBox, hi1]) (fun c7 => by simp (maxSteps := 1000000) [spec_StoreOk.l0, List.range_succ, bs_get, setAt, hi, h1, h2, h3, h4, c7, c3, hr2, encBox])
  by_cases c7 : 0 < i
  · by_cases c2 : s.boxes[i].gid ≤ s.boxes[i - 1].gid
    · have e6 : IntKind.i64.wrap ((i : Int) - 1) = ((i - 1 : Nat) : Int) := by rw [wrap_i64 (by have := hs.b; omega) (by have := hs.b; omega)]; omega
      simp (maxSteps := 1000000) [spec_StoreOk.l0, List.range_succ, bs_get, setAt, hi, h1, c7, c2, e6, encBox, (show i - 1 < s.boxes.length by omega)]
    · exact tail (.inr c2)
  · exact tail (.inl c7)
theorem spec_StoreOk.says (h : spec_StoreOk.k M) (s : Store) (hs : StoreIn s) : run M 149 [.a (encStore s)] [] = some (.c (.bool (storeOk s)), []) := by
  obtain ⟨h0, k1, k2, k3, k4, k5, k6⟩ := h
  have h1 := spec_l01In.inR k2 s.who 1 2
  have h2 := spec_l01In.inR k2 s.time 0 100000
  have h3 := spec_l06Sorted.says k4 s.gone 20 (by have := hs.g; omega)
  refine run_code (b := spec_StoreOk.m) h0 ⟨4000000, ?_⟩
  obtain ⟨K, hK⟩ : ∃ K, 4000000 = K := ⟨_, rfl⟩
  rw [hK]
  obtain ⟨g, hr⟩ := early_loop (f := exC (run M) K spec_StoreOk.l0) s.boxes.length (badAt s) (sp0S s) 2 (.bool false) 0 (sp0E s)
    (fun i hi x c => spec_StoreOk.good ⟨k1, k3, k5, k6⟩ s hs K (by omega) i hi x c)
    (fun i hi x c => spec_StoreOk.bad ⟨k1, k3, k5, k6⟩ s hs K (by omega) i hi x c)
    (fun x => by
      obtain ⟨v, w, x⟩ := x
      simp only [Prod.exists]
      simp (maxSteps := 1000000) [spec_StoreOk.l0, List.range_succ, bs_get, setAt, sp0S, sp0E, spO])
  have hr2 := fun x => loopN_le (hr x) (show s.boxes.length + 1 ≤ K by have := hs.b; omega)
  cases c1 : inR 1 s.who 2
  · simp (maxSteps := 1000000) [exB, spec_StoreOk.m, spec_StoreOk.b, List.range_succ, bs_get, setAt, h1, c1, storeOk]
  cases c2 : inR 0 s.time 100000
  · simp (maxSteps := 1000000) [exB, spec_StoreOk.m, spec_StoreOk.b, List.range_succ, bs_get, setAt, h1, h2, c1, c2, storeOk]
  by_cases c3 : 5 < s.boxes.length
  · have c3' : ¬ s.boxes.length ≤ 5 := by omega
    have ci : (5 : Int) < s.boxes.length := by omega
    simp (maxSteps := 1000000) [exB, spec_StoreOk.m, spec_StoreOk.b, List.range_succ, bs_get, setAt, h1, h2, c1, c2, c3', ci, storeOk]
  have c3' : s.boxes.length ≤ 5 := by omega
  have ci : ¬ (5 : Int) < s.boxes.length := by omega
  cases c4 : gidsOk s.gone 20
  · simp (maxSteps := 1000000) [exB, spec_StoreOk.m, spec_StoreOk.b, List.range_succ, bs_get, setAt, h1, h2, h3, c1, c2, ci, c4, storeOk]
  have hz : seenAt s 0 = [] := by simp [seenAt]
  cases q : firstN (badAt s) s.boxes.length with
  | none =>
    simp [sp0S, sp0E, spO, q, fin1, hz, irow] at hr2
    simp (maxSteps := 1000000) [exB, spec_StoreOk.m, spec_StoreOk.b, List.range_succ, bs_get, setAt, h1, h2, h3, c1, c2, c3', ci, c4, hr2, storeOk, q]
  | some k =>
    simp [sp0S, spO, q, fin1, hz, irow] at hr2
    simp (maxSteps := 1000000) [exB, spec_StoreOk.m, spec_StoreOk.b, List.range_succ, bs_get, setAt, h1, h2, h3, c1, c2, c3', ci, c4, hr2, storeOk, q]
end Mx

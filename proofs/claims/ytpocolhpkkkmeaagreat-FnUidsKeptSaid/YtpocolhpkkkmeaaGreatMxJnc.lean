/-
  What more of the functions compute, each by a small evaluation; no condition beyond what each says.
-/
import Derived.Lib.SlicesCompact
import Derived.Test.YtpocolhpkkkmeaaGreatMxJnb
set_option linter.unusedSimpArgs false
set_option linter.unusedVariables false
namespace Mx
open Go
def spec_l04Copy.b : C := .seq (.reg [⟨some 2, .nil 3, none⟩] [0] [])
  (.seq (.reg [⟨some 3, .bslice 3 0 [.int .i64 0, .int .i64 0, .int .i64 0] [], none⟩,
    ⟨some 4, .mv (.t 0), none⟩,
    ⟨some 5, .app 3 24 (.t 3) (.t 4), none⟩,
    ⟨some 2, .mv (.t 5), none⟩] [2] [2, 3, 5])
  (.ret))
def spec_l04Copy.m : Fn := { np := 1, body := spec_l04Copy.b, res := [.tmp 2] }
def spec_l04Copy.k (M : Nat → Option Body) : Prop := M 241 = some (.code spec_l04Copy.m)
def spec_l05Copy.b : C := .seq (.reg [⟨some 1, .box (.t 0), none⟩,
    ⟨some 2, .alloc [.int .i64 0, .int .i64 0, .nils 3, .str ⟨#[]⟩], none⟩] [1, 2] [1, 2, 10500])
  (.seq (.reg [⟨some 3, .faddr 2 (.t 1), none⟩,
    ⟨some 4, .load false 1 (.t 3), none⟩,
    ⟨some 5, .call 241 [.t 4] [] [(0, 10500)], none⟩,
    ⟨some 6, .faddr 2 (.t 1), none⟩,
    ⟨none, .store 1 (.t 6) (.t 5), none⟩] [1, 2] [1, 2, 10500])
  (.seq (.reg [⟨some 7, .load true 4 (.t 1), none⟩,
    ⟨none, .store 4 (.t 2) (.t 7), none⟩] [2] [2, 10500])
  (.ret)))
def spec_l05Copy.m : Fn := { np := 1, body := spec_l05Copy.b, res := [.cell 2 true 4] }
def spec_l05Copy.k (M : Nat → Option Body) : Prop := M 238 = some (.code spec_l05Copy.m) ∧ spec_l04Copy.k M
def spec_l06Copy.l0 : C := .seq (.seq (.reg [⟨some 8, .mv (.t 4), none⟩,
    ⟨some 9, .faddr 5 (.t 1), none⟩,
    ⟨some 10, .load false 1 (.t 9), none⟩,
    ⟨some 11, .len (.t 10), none⟩,
    ⟨some 12, .bin .lss (.t 8) (.t 11), none⟩] [1, 2, 3, 4, 12] [1, 2, 3, 6, 24, 26, 29])
  (.cond (.t 12) (.skip) (.exit 0)))
  (.seq (.block 1 (.regd [⟨some 15, .faddr 5 (.t 3), none⟩,
    ⟨some 16, .load false 1 (.t 15), none⟩,
    ⟨some 17, .faddr 5 (.t 1), none⟩,
    ⟨some 18, .load false 1 (.t 17), none⟩,
    ⟨some 19, .mv (.t 4), none⟩,
    ⟨some 20, .iaddr 4 (.t 18) (.t 19), none⟩,
    ⟨some 21, .load true 4 (.t 20), none⟩,
    ⟨some 22, .call 238 [.t 21] [] [], none⟩,
    ⟨some 23, .bslice 4 1 [.int .i64 0, .int .i64 0, .nils 3, .str ⟨#[]⟩] [(0, .t 22)], none⟩,
    ⟨some 24, .app 4 56 (.t 16) (.t 23), none⟩,
    ⟨some 25, .faddr 5 (.t 3), none⟩,
    ⟨none, .store 1 (.t 25) (.t 24), none⟩] [[], [0], [], [2], [], [2, 3, 4], [2, 3, 4, 5], [2, 3, 4, 5, 6], [2, 3, 4, 5, 6, 7], List.range 9, List.range 10, List.range 11] [1, 2, 3, 4] [1, 2, 3, 6, 24, 26, 29]))
  (.reg [⟨some 13, .mv (.t 4), none⟩,
    ⟨some 14, .bin .add (.t 13) (.k (.int .i64 1)), none⟩,
    ⟨some 4, .mv (.t 14), none⟩] [1, 2, 3, 4] [1, 2, 3, 6, 24, 26, 29]))
def spec_l06Copy.b : C := .seq (.reg [⟨some 1, .box (.t 0), none⟩,
    ⟨some 2, .alloc [.int .i64 0, .str ⟨#[]⟩, .int .i64 0, .int .i64 0, .int .i64 0, .nils 4, .nils 1], none⟩] [1, 2] [1, 2, 6, 24, 26, 29])
  (.seq (.reg [⟨some 5, .load true 7 (.t 1), none⟩,
    ⟨some 3, .alloc [.int .i64 0, .str ⟨#[]⟩, .int .i64 0, .int .i64 0, .int .i64 0, .nils 4, .nils 1], none⟩,
    ⟨none, .store 7 (.t 3) (.t 5), none⟩] [1, 2, 3] [1, 2, 3, 6, 24, 26, 29])
  (.seq (.reg [⟨some 6, .bslice 4 0 [.int .i64 0, .int .i64 0, .nils 3, .str ⟨#[]⟩] [], none⟩,
    ⟨some 7, .faddr 5 (.t 3), none⟩,
    ⟨none, .store 1 (.t 7) (.t 6), none⟩] [1, 2, 3] [1, 2, 3, 6, 24, 26, 29])
  (.seq (.seq (.reg [⟨some 4, .mv (.k (.int .i64 0)), none⟩] [1, 2, 3, 4] [1, 2, 3, 6, 24, 26, 29])
  (.block 0 (.loop spec_l06Copy.l0)))
  (.seq (.reg [⟨some 26, .bslice 1 0 [.int .i64 0] [], none⟩,
    ⟨some 27, .faddr 6 (.t 1), none⟩,
    ⟨some 28, .load false 1 (.t 27), none⟩,
    ⟨some 29, .app 1 8 (.t 26) (.t 28), none⟩,
    ⟨some 30, .faddr 6 (.t 3), none⟩,
    ⟨none, .store 1 (.t 30) (.t 29), none⟩] [2, 3] [2, 3, 6, 24, 26, 29])
  (.seq (.reg [⟨some 31, .load true 7 (.t 3), none⟩,
    ⟨none, .store 7 (.t 2) (.t 31), none⟩] [2] [2, 6, 24, 26, 29])
  (.ret))))))
def spec_l06Copy.m : Fn := { np := 1, body := spec_l06Copy.b, res := [.cell 2 true 7] }
def spec_l06Copy.k (M : Nat → Option Body) : Prop := M 180 = some (.code spec_l06Copy.m) ∧ spec_l05Copy.k M
def spec_FlagsNew.l0 : C := .seq (.seq (.reg [⟨some 9, .mv (.t 6), none⟩,
    ⟨some 10, .bin .lss (.t 9) (.k (.int .i64 3)), none⟩] [0, 3, 5, 6, 10] [3, 8, 24])
  (.cond (.t 10) (.skip) (.exit 0)))
  (.seq (.block 1 (.seq (.reg [⟨some 7, .mv (.k (.int .i64 0)), none⟩] [0, 3, 5, 6, 7] [3, 8, 24])
  (.seq (.seq (.reg [⟨some 13, .mv (.t 0), none⟩,
    ⟨some 14, .mv (.t 6), none⟩,
    ⟨some 15, .i2i .u64 (.t 14), none⟩,
    ⟨some 16, .bin .shr (.t 13) (.t 15), none⟩,
    ⟨some 17, .bin .rem (.t 16) (.k (.int .i64 2)), none⟩,
    ⟨some 18, .bin .neq (.t 17) (.k (.int .i64 0)), none⟩] [0, 3, 5, 6, 7, 18] [3, 8, 24])
  (.cond (.t 18) (.reg [⟨some 7, .mv (.k (.int .i64 1)), none⟩] [0, 3, 5, 6, 7] [3, 8, 24]) (.skip)))
  (.reg [⟨some 19, .mv (.t 5), none⟩,
    ⟨some 20, .mv (.t 7), none⟩,
    ⟨some 21, .load true 2 (.t 3), none⟩,
    ⟨some 22, .build [.int .i64 0, .int .i64 0, .int .i64 0] [(0, 1, .t 20), (1, 2, .t 21)], none⟩,
    ⟨some 23, .bslice 3 1 [.int .i64 0, .int .i64 0, .int .i64 0] [(0, .t 22)], none⟩,
    ⟨some 24, .app 3 24 (.t 19) (.t 23), none⟩,
    ⟨some 5, .mv (.t 24), none⟩] [0, 3, 5, 6] [3, 8, 24]))))
  (.reg [⟨some 11, .mv (.t 6), none⟩,
    ⟨some 12, .bin .add (.t 11) (.k (.int .i64 1)), none⟩,
    ⟨some 6, .mv (.t 12), none⟩] [0, 3, 5, 6] [3, 8, 24]))
def spec_FlagsNew.b : C := .seq (.reg [⟨some 3, .box (.t 1), none⟩,
    ⟨some 4, .nil 3, none⟩] [0, 3] [3])
  (.seq (.reg [⟨some 8, .bslice 3 0 [.int .i64 0, .int .i64 0, .int .i64 0] [], none⟩,
    ⟨some 5, .mv (.t 8), none⟩] [0, 3, 5] [3, 8, 24])
  (.seq (.seq (.reg [⟨some 6, .mv (.k (.int .i64 0)), none⟩] [0, 3, 5, 6] [3, 8, 24])
  (.block 0 (.loop spec_FlagsNew.l0)))
  (.seq (.reg [⟨some 25, .mv (.t 5), none⟩,
    ⟨some 4, .mv (.t 25), none⟩] [4] [4, 8, 24])
  (.ret))))
def spec_FlagsNew.m : Fn := { np := 2, body := spec_FlagsNew.b, res := [.tmp 4] }
def spec_FlagsNew.k (M : Nat → Option Body) : Prop := M 181 = some (.code spec_FlagsNew.m)
def spec_AddMail.b : C := .seq (.reg [⟨some 5, .box (.t 0), none⟩,
    ⟨some 9, .box (.t 4), none⟩,
    ⟨some 10, .alloc [.int .i64 0, .str ⟨#[]⟩, .int .i64 0, .int .i64 0, .int .i64 0, .nils 4, .nils 1], none⟩,
    ⟨some 11, .mv (.k (.bool false)), none⟩] [1, 2, 3, 5, 9, 10] [5, 9, 10, 47, 11405, 11406, 15705, 15706])
  (.seq (.reg [⟨some 13, .load true 7 (.t 5), none⟩,
    ⟨some 14, .call 180 [.t 13] [] [(5, 11405), (6, 11406)], none⟩,
    ⟨some 12, .alloc [.int .i64 0, .str ⟨#[]⟩, .int .i64 0, .int .i64 0, .int .i64 0, .nils 4, .nils 1], none⟩,
    ⟨none, .store 7 (.t 12) (.t 14), none⟩] [1, 2, 3, 5, 9, 10, 12] [5, 9, 10, 12, 47, 11405, 11406, 15705, 15706])
  (.seq (.seq (.reg [⟨some 15, .load true 7 (.t 5), none⟩,
    ⟨some 16, .call 88 [.t 15] [] [], none⟩,
    ⟨some 17, .not (.t 16), none⟩,
    ⟨some 18, .mv (.t 17), none⟩,
    ⟨some 19, .load true 7 (.t 5), some (18, false)⟩,
    ⟨some 20, .mv (.t 1), some (18, false)⟩,
    ⟨some 21, .call 91 [.t 19, .t 20] [] [], some (18, false)⟩,
    ⟨some 22, .bin .geq (.t 21) (.k (.int .i64 0)), some (18, false)⟩,
    ⟨some 23, .pick (.t 18) (.k (.bool true)) (.t 22), none⟩,
    ⟨some 24, .mv (.t 23), none⟩,
    ⟨some 25, .faddr 6 (.t 5), some (24, false)⟩,
    ⟨some 26, .load false 1 (.t 25), some (24, false)⟩,
    ⟨some 27, .mv (.t 1), some (24, false)⟩,
    ⟨some 28, .call 132 [.t 26, .t 27] [] [], some (24, false)⟩,
    ⟨some 29, .pick (.t 24) (.k (.bool true)) (.t 28), none⟩,
    ⟨some 30, .mv (.t 29), none⟩,
    ⟨some 31, .mv (.t 2), some (30, false)⟩,
    ⟨some 32, .call 98 [.t 31, .k (.int .i64 0), .k (.int .i64 7)] [] [], some (30, false)⟩,
    ⟨some 33, .not (.t 32), some (30, false)⟩,
    ⟨some 34, .pick (.t 30) (.k (.bool true)) (.t 33), none⟩] [1, 2, 3, 5, 9, 10, 12, 34] [5, 9, 10, 12, 47, 11405, 11406, 15705, 15706])
  (.cond (.t 34) (.seq (.reg [⟨some 35, .load true 7 (.t 12), none⟩,
    ⟨none, .store 7 (.t 10) (.t 35), none⟩,
    ⟨some 11, .mv (.k (.bool false)), none⟩] [10, 11] [10, 47, 11405, 11406, 15705, 15706])
  (.ret)) (.skip)))
  (.seq (.regd [⟨some 36, .faddr 5 (.t 12), none⟩,
    ⟨some 37, .load false 1 (.t 36), none⟩,
    ⟨some 38, .mv (.t 1), none⟩,
    ⟨some 39, .faddr 4 (.t 5), none⟩,
    ⟨some 40, .load false 1 (.t 39), none⟩,
    ⟨some 41, .mv (.t 2), none⟩,
    ⟨some 42, .load true 2 (.t 9), none⟩,
    ⟨some 43, .call 181 [.t 41, .t 42] [] [], none⟩,
    ⟨some 44, .mv (.t 3), none⟩,
    ⟨some 45, .build [.int .i64 0, .int .i64 0, .nils 3, .str ⟨#[]⟩] [(0, 1, .t 38), (1, 1, .t 40), (2, 1, .t 43), (3, 1, .t 44)], none⟩,
    ⟨some 46, .bslice 4 1 [.int .i64 0, .int .i64 0, .nils 3, .str ⟨#[]⟩] [(0, .t 45)], none⟩,
    ⟨some 47, .app 4 56 (.t 37) (.t 46), none⟩,
    ⟨some 48, .faddr 5 (.t 12), none⟩,
    ⟨none, .store 1 (.t 48) (.t 47), none⟩] [[], [0], [], [], [3], [], [], [5, 6], [], [2, 3, 4, 5, 6, 7, 8], [2, 3, 4, 5, 6, 7, 8, 9], List.range 11, List.range 12, List.range 13] [5, 10, 12] [5, 10, 12, 47, 11405, 11406, 15705, 15706])
  (.seq (.reg [⟨some 49, .faddr 4 (.t 5), none⟩,
    ⟨some 50, .load false 1 (.t 49), none⟩,
    ⟨some 51, .bin .add (.t 50) (.k (.int .i64 1)), none⟩,
    ⟨some 52, .faddr 4 (.t 12), none⟩,
    ⟨none, .store 1 (.t 52) (.t 51), none⟩] [5, 10, 12] [5, 10, 12, 47, 11405, 11406, 15705, 15706])
  (.seq (.seq (.reg [⟨some 53, .load true 7 (.t 12), none⟩,
    ⟨some 54, .call 88 [.t 53] [] [], none⟩,
    ⟨some 55, .not (.t 54), none⟩] [5, 10, 12, 55] [5, 10, 12, 47, 11405, 11406, 15705, 15706])
  (.cond (.t 55) (.seq (.reg [⟨some 56, .load true 7 (.t 5), none⟩,
    ⟨some 57, .call 180 [.t 56] [] [(5, 15705), (6, 15706)], none⟩,
    ⟨none, .store 7 (.t 10) (.t 57), none⟩,
    ⟨some 11, .mv (.k (.bool false)), none⟩] [10, 11] [10, 47, 11405, 11406, 15705, 15706])
  (.ret)) (.skip)))
  (.seq (.reg [⟨some 58, .load true 7 (.t 12), none⟩,
    ⟨none, .store 7 (.t 10) (.t 58), none⟩,
    ⟨some 11, .mv (.k (.bool true)), none⟩] [10, 11] [10, 47, 11405, 11406, 15705, 15706])
  (.ret)))))))
def spec_AddMail.m : Fn := { np := 5, body := spec_AddMail.b, res := [.cell 10 true 7, .tmp 11] }
def spec_AddMail.k (M : Nat → Option Body) : Prop := M 81 = some (.code spec_AddMail.m) ∧ spec_BoxOk.k M ∧ spec_MailAt.k M ∧ spec_l01In.k M ∧ spec_l06In.k M ∧ spec_l06Copy.k M ∧ spec_FlagsNew.k M
def spec_Later.b : C := .seq (.reg [⟨some 2, .box (.t 0), none⟩,
    ⟨some 3, .box (.t 1), none⟩,
    ⟨some 4, .mv (.k (.bool false)), none⟩] [2, 3] [2, 3])
  (.seq (.seq (.reg [⟨some 5, .faddr 0 (.t 2), none⟩,
    ⟨some 6, .load false 1 (.t 5), none⟩,
    ⟨some 7, .faddr 0 (.t 3), none⟩,
    ⟨some 8, .load false 1 (.t 7), none⟩,
    ⟨some 9, .bin .neq (.t 6) (.t 8), none⟩] [2, 3, 9] [2, 3])
  (.cond (.t 9) (.seq (.reg [⟨some 10, .faddr 0 (.t 2), none⟩,
    ⟨some 11, .load false 1 (.t 10), none⟩,
    ⟨some 12, .faddr 0 (.t 3), none⟩,
    ⟨some 13, .load false 1 (.t 12), none⟩,
    ⟨some 14, .bin .gtr (.t 11) (.t 13), none⟩,
    ⟨some 4, .mv (.t 14), none⟩] [4] [])
  (.ret)) (.skip)))
  (.seq (.reg [⟨some 15, .faddr 1 (.t 2), none⟩,
    ⟨some 16, .load false 1 (.t 15), none⟩,
    ⟨some 17, .faddr 1 (.t 3), none⟩,
    ⟨some 18, .load false 1 (.t 17), none⟩,
    ⟨some 19, .bin .gtr (.t 16) (.t 18), none⟩,
    ⟨some 4, .mv (.t 19), none⟩] [4] [])
  (.ret)))
def spec_Later.m : Fn := { np := 2, body := spec_Later.b, res := [.tmp 4] }
def spec_Later.k (M : Nat → Option Body) : Prop := M 277 = some (.code spec_Later.m)
def spec_PutReg.b : C := .seq (.reg [⟨some 3, .box (.t 0), none⟩,
    ⟨some 5, .box (.t 2), none⟩,
    ⟨some 6, .alloc [.int .i64 0, .int .i64 0, .int .i64 0], none⟩] [1, 3, 5, 6] [3, 5, 6])
  (.seq (.reg [⟨some 8, .mv (.t 1), none⟩,
    ⟨some 9, .load true 2 (.t 5), none⟩,
    ⟨some 10, .build [.int .i64 0, .int .i64 0, .int .i64 0] [(0, 1, .t 8), (1, 2, .t 9)], none⟩,
    ⟨some 7, .alloc [.int .i64 0, .int .i64 0, .int .i64 0], none⟩,
    ⟨none, .store 3 (.t 7) (.t 10), none⟩] [3, 5, 6, 7] [3, 5, 6, 7])
  (.seq (.seq (.reg [⟨some 11, .load true 2 (.t 5), none⟩,
    ⟨some 12, .faddr 1 (.t 3), none⟩,
    ⟨some 13, .load true 2 (.t 12), none⟩,
    ⟨some 14, .call 277 [.t 11, .t 13] [] [], none⟩,
    ⟨some 15, .not (.t 14), none⟩,
    ⟨some 16, .mv (.t 15), none⟩,
    ⟨some 17, .load true 3 (.t 7), some (16, false)⟩,
    ⟨some 18, .call 276 [.t 17] [] [], some (16, false)⟩,
    ⟨some 19, .not (.t 18), some (16, false)⟩,
    ⟨some 20, .pick (.t 16) (.k (.bool true)) (.t 19), none⟩] [3, 6, 7, 20] [3, 6, 7])
  (.cond (.t 20) (.seq (.reg [⟨some 21, .load true 3 (.t 3), none⟩,
    ⟨none, .store 3 (.t 6) (.t 21), none⟩] [6] [6])
  (.ret)) (.skip)))
  (.seq (.reg [⟨some 22, .load true 3 (.t 7), none⟩,
    ⟨none, .store 3 (.t 6) (.t 22), none⟩] [6] [6])
  (.ret))))
def spec_PutReg.m : Fn := { np := 3, body := spec_PutReg.b, res := [.cell 6 true 3] }
def spec_PutReg.k (M : Nat → Option Body) : Prop := M 243 = some (.code spec_PutReg.m) ∧ spec_RegOk.k M ∧ spec_Later.k M
def spec_SetFlags.l0 : C := .seq (.seq (.reg [⟨some 21, .mv (.t 8), none⟩,
    ⟨some 22, .mv (.t 7), none⟩,
    ⟨some 23, .len (.t 22), none⟩,
    ⟨some 24, .bin .lss (.t 21) (.t 23), none⟩] [1, 5, 7, 8, 24] [5, 11100])
  (.cond (.t 24) (.skip) (.exit 0)))
  (.seq (.block 1 (.seq (.reg [⟨some 27, .mv (.t 1), none⟩,
    ⟨some 28, .mv (.t 8), none⟩,
    ⟨some 29, .i2i .u64 (.t 28), none⟩,
    ⟨some 30, .bin .shr (.t 27) (.t 29), none⟩,
    ⟨some 31, .bin .rem (.t 30) (.k (.int .i64 2)), none⟩,
    ⟨some 9, .mv (.t 31), none⟩] [1, 5, 7, 8, 9] [5, 11100])
  (.seq (.reg [⟨some 32, .mv (.t 7), none⟩,
    ⟨some 33, .mv (.t 8), none⟩,
    ⟨some 34, .iaddr 3 (.t 32) (.t 33), none⟩,
    ⟨some 35, .faddr 0 (.t 34), none⟩,
    ⟨some 36, .load false 1 (.t 35), none⟩,
    ⟨some 37, .mv (.t 9), none⟩,
    ⟨some 38, .bin .neq (.t 36) (.t 37), none⟩] [1, 5, 7, 8, 9, 38] [5, 11100])
  (.cond (.t 38) (.regd [⟨some 39, .mv (.t 7), none⟩,
    ⟨some 40, .mv (.t 8), none⟩,
    ⟨some 41, .mv (.t 7), none⟩,
    ⟨some 42, .mv (.t 8), none⟩,
    ⟨some 43, .iaddr 3 (.t 41) (.t 42), none⟩,
    ⟨some 44, .load true 3 (.t 43), none⟩,
    ⟨some 45, .mv (.t 9), none⟩,
    ⟨some 46, .load true 2 (.t 5), none⟩,
    ⟨some 47, .call 243 [.t 44, .t 45, .t 46] [] [], none⟩,
    ⟨some 48, .iaddr 3 (.t 39) (.t 40), none⟩,
    ⟨none, .store 3 (.t 48) (.t 47), none⟩] [[], [], [], [], [2, 3], [2, 3, 4], [], [], [2, 3, 4, 5, 6, 7], List.range 9, List.range 10] [1, 5, 7, 8] [5, 11100]) (.skip)))))
  (.reg [⟨some 25, .mv (.t 8), none⟩,
    ⟨some 26, .bin .add (.t 25) (.k (.int .i64 1)), none⟩,
    ⟨some 8, .mv (.t 26), none⟩] [1, 5, 7, 8] [5, 11100]))
def spec_SetFlags.b : C := .seq (.reg [⟨some 5, .box (.t 2), none⟩,
    ⟨some 6, .nil 3, none⟩] [0, 1, 5] [5])
  (.seq (.reg [⟨some 10, .mv (.t 0), none⟩,
    ⟨some 11, .call 241 [.t 10] [] [(0, 11100)], none⟩,
    ⟨some 7, .mv (.t 11), none⟩] [0, 1, 5, 7] [5, 11100])
  (.seq (.seq (.reg [⟨some 12, .mv (.t 0), none⟩,
    ⟨some 13, .call 242 [.t 12] [] [], none⟩,
    ⟨some 14, .not (.t 13), none⟩,
    ⟨some 15, .mv (.t 14), none⟩,
    ⟨some 16, .mv (.t 1), some (15, false)⟩,
    ⟨some 17, .call 98 [.t 16, .k (.int .i64 0), .k (.int .i64 7)] [] [], some (15, false)⟩,
    ⟨some 18, .not (.t 17), some (15, false)⟩,
    ⟨some 19, .pick (.t 15) (.k (.bool true)) (.t 18), none⟩] [1, 5, 7, 19] [5, 11100])
  (.cond (.t 19) (.seq (.reg [⟨some 20, .mv (.t 7), none⟩,
    ⟨some 6, .mv (.t 20), none⟩] [6] [6, 11100])
  (.ret)) (.skip)))
  (.seq (.seq (.reg [⟨some 8, .mv (.k (.int .i64 0)), none⟩] [1, 5, 7, 8] [5, 11100])
  (.block 0 (.loop spec_SetFlags.l0)))
  (.seq (.reg [⟨some 49, .mv (.t 7), none⟩,
    ⟨some 6, .mv (.t 49), none⟩] [6] [6, 11100])
  (.ret)))))
def spec_SetFlags.m : Fn := { np := 3, body := spec_SetFlags.b, res := [.tmp 6] }
def spec_SetFlags.k (M : Nat → Option Body) : Prop := M 184 = some (.code spec_SetFlags.m) ∧ spec_l01In.k M ∧ spec_l04Copy.k M ∧ spec_FlagsOk.k M ∧ spec_PutReg.k M
def spec_FlagMail.b : C := .seq (.reg [⟨some 4, .box (.t 0), none⟩,
    ⟨some 7, .box (.t 3), none⟩,
    ⟨some 8, .alloc [.int .i64 0, .str ⟨#[]⟩, .int .i64 0, .int .i64 0, .int .i64 0, .nils 4, .nils 1], none⟩,
    ⟨some 9, .mv (.k (.bool false)), none⟩] [1, 2, 4, 7, 8] [4, 7, 8, 11305, 11306])
  (.seq (.reg [⟨some 12, .load true 7 (.t 4), none⟩,
    ⟨some 13, .call 180 [.t 12] [] [(5, 11305), (6, 11306)], none⟩,
    ⟨some 10, .alloc [.int .i64 0, .str ⟨#[]⟩, .int .i64 0, .int .i64 0, .int .i64 0, .nils 4, .nils 1], none⟩,
    ⟨none, .store 7 (.t 10) (.t 13), none⟩] [1, 2, 4, 7, 8, 10] [4, 7, 8, 10, 11305, 11306])
  (.seq (.reg [⟨some 14, .load true 7 (.t 4), none⟩,
    ⟨some 15, .mv (.t 1), none⟩,
    ⟨some 16, .call 91 [.t 14, .t 15] [] [], none⟩,
    ⟨some 11, .mv (.t 16), none⟩] [2, 4, 7, 8, 10, 11] [4, 7, 8, 10, 11305, 11306])
  (.seq (.seq (.reg [⟨some 17, .load true 7 (.t 4), none⟩,
    ⟨some 18, .call 88 [.t 17] [] [], none⟩,
    ⟨some 19, .not (.t 18), none⟩,
    ⟨some 20, .mv (.t 19), none⟩,
    ⟨some 21, .mv (.t 11), some (20, false)⟩,
    ⟨some 22, .bin .lss (.t 21) (.k (.int .i64 0)), some (20, false)⟩,
    ⟨some 23, .pick (.t 20) (.k (.bool true)) (.t 22), none⟩,
    ⟨some 24, .mv (.t 23), none⟩,
    ⟨some 25, .mv (.t 2), some (24, false)⟩,
    ⟨some 26, .call 98 [.t 25, .k (.int .i64 0), .k (.int .i64 7)] [] [], some (24, false)⟩,
    ⟨some 27, .not (.t 26), some (24, false)⟩,
    ⟨some 28, .pick (.t 24) (.k (.bool true)) (.t 27), none⟩,
    ⟨some 29, .mv (.t 28), none⟩,
    ⟨some 30, .load true 2 (.t 7), some (29, false)⟩,
    ⟨some 31, .call 183 [.t 30] [] [], some (29, false)⟩,
    ⟨some 32, .not (.t 31), some (29, false)⟩,
    ⟨some 33, .pick (.t 29) (.k (.bool true)) (.t 32), none⟩] [2, 4, 7, 8, 10, 11, 33] [4, 7, 8, 10, 11305, 11306])
  (.cond (.t 33) (.seq (.reg [⟨some 34, .load true 7 (.t 10), none⟩,
    ⟨none, .store 7 (.t 8) (.t 34), none⟩,
    ⟨some 9, .mv (.k (.bool false)), none⟩] [8, 9] [8, 11305, 11306])
  (.ret)) (.skip)))
  (.seq (.regd [⟨some 35, .faddr 5 (.t 10), none⟩,
    ⟨some 36, .load false 1 (.t 35), none⟩,
    ⟨some 37, .mv (.t 11), none⟩,
    ⟨some 38, .faddr 5 (.t 4), none⟩,
    ⟨some 39, .load false 1 (.t 38), none⟩,
    ⟨some 40, .mv (.t 11), none⟩,
    ⟨some 41, .iaddr 4 (.t 39) (.t 40), none⟩,
    ⟨some 42, .faddr 2 (.t 41), none⟩,
    ⟨some 43, .load false 1 (.t 42), none⟩,
    ⟨some 44, .mv (.t 2), none⟩,
    ⟨some 45, .load true 2 (.t 7), none⟩,
    ⟨some 46, .call 184 [.t 43, .t 44, .t 45] [] [], none⟩,
    ⟨some 47, .iaddr 4 (.t 36) (.t 37), none⟩,
    ⟨some 48, .faddr 2 (.t 47), none⟩,
    ⟨none, .store 1 (.t 48) (.t 46), none⟩] [[], [0], [], [], [3], [], [3, 4, 5], [3, 4, 5, 6], [3, 4, 5, 6, 7], [], [], [3, 4, 5, 6, 7, 8, 9, 10], List.range 12, List.range 13, List.range 14] [8, 10] [8, 10, 11305, 11306])
  (.seq (.reg [⟨some 49, .load true 7 (.t 10), none⟩,
    ⟨none, .store 7 (.t 8) (.t 49), none⟩,
    ⟨some 9, .mv (.k (.bool true)), none⟩] [8, 9] [8, 11305, 11306])
  (.ret))))))
def spec_FlagMail.m : Fn := { np := 4, body := spec_FlagMail.b, res := [.cell 8 true 7, .tmp 9] }
def spec_FlagMail.k (M : Nat → Option Body) : Prop := M 84 = some (.code spec_FlagMail.m) ∧ spec_BoxOk.k M ∧ spec_MailAt.k M ∧ spec_l01In.k M ∧ spec_l06Copy.k M ∧ spec_StampOk.k M ∧ spec_SetFlags.k M
def spec_TakeOut.b : C := .seq (.reg [⟨some 2, .box (.t 0), none⟩,
    ⟨some 4, .alloc [.int .i64 0, .str ⟨#[]⟩, .int .i64 0, .int .i64 0, .int .i64 0, .nils 4, .nils 1], none⟩,
    ⟨some 5, .mv (.k (.bool false)), none⟩] [1, 2, 4] [2, 4, 27, 32, 38, 10905, 10906, 14300])
  (.seq (.reg [⟨some 8, .load true 7 (.t 2), none⟩,
    ⟨some 9, .call 180 [.t 8] [] [(5, 10905), (6, 10906)], none⟩,
    ⟨some 6, .alloc [.int .i64 0, .str ⟨#[]⟩, .int .i64 0, .int .i64 0, .int .i64 0, .nils 4, .nils 1], none⟩,
    ⟨none, .store 7 (.t 6) (.t 9), none⟩] [1, 2, 4, 6] [2, 4, 6, 27, 32, 38, 10905, 10906, 14300])
  (.seq (.reg [⟨some 10, .load true 7 (.t 2), none⟩,
    ⟨some 11, .mv (.t 1), none⟩,
    ⟨some 12, .call 91 [.t 10, .t 11] [] [], none⟩,
    ⟨some 7, .mv (.t 12), none⟩] [1, 2, 4, 6, 7] [2, 4, 6, 27, 32, 38, 10905, 10906, 14300])
  (.seq (.seq (.reg [⟨some 13, .load true 7 (.t 2), none⟩,
    ⟨some 14, .call 88 [.t 13] [] [], none⟩,
    ⟨some 15, .not (.t 14), none⟩,
    ⟨some 16, .mv (.t 15), none⟩,
    ⟨some 17, .mv (.t 7), some (16, false)⟩,
    ⟨some 18, .bin .lss (.t 17) (.k (.int .i64 0)), some (16, false)⟩,
    ⟨some 19, .pick (.t 16) (.k (.bool true)) (.t 18), none⟩,
    ⟨some 20, .mv (.t 19), none⟩,
    ⟨some 21, .faddr 6 (.t 2), some (20, false)⟩,
    ⟨some 22, .load false 1 (.t 21), some (20, false)⟩,
    ⟨some 23, .len (.t 22), some (20, false)⟩,
    ⟨some 24, .bin .geq (.t 23) (.k (.int .i64 40)), some (20, false)⟩,
    ⟨some 25, .pick (.t 20) (.k (.bool true)) (.t 24), none⟩] [1, 2, 4, 6, 7, 25] [2, 4, 6, 27, 32, 38, 10905, 10906, 14300])
  (.cond (.t 25) (.seq (.reg [⟨some 26, .load true 7 (.t 6), none⟩,
    ⟨none, .store 7 (.t 4) (.t 26), none⟩,
    ⟨some 5, .mv (.k (.bool false)), none⟩] [4, 5] [4, 27, 32, 38, 10905, 10906, 14300])
  (.ret)) (.skip)))
  (.seq (.regd [⟨some 27, .bslice 4 0 [.int .i64 0, .int .i64 0, .nils 3, .str ⟨#[]⟩] [], none⟩,
    ⟨some 28, .faddr 5 (.t 6), none⟩,
    ⟨some 29, .load false 1 (.t 28), none⟩,
    ⟨some 30, .mv (.t 7), none⟩,
    ⟨some 31, .slc 4 (.t 29) none (some (.t 30)) none, none⟩,
    ⟨some 32, .app 4 56 (.t 27) (.t 31), none⟩,
    ⟨some 33, .faddr 5 (.t 6), none⟩,
    ⟨some 34, .load false 1 (.t 33), none⟩,
    ⟨some 35, .mv (.t 7), none⟩,
    ⟨some 36, .bin .add (.t 35) (.k (.int .i64 1)), none⟩,
    ⟨some 37, .slc 4 (.t 34) (some (.t 36)) none none, none⟩,
    ⟨some 38, .app 4 56 (.t 32) (.t 37), none⟩,
    ⟨some 39, .faddr 5 (.t 6), none⟩,
    ⟨none, .store 1 (.t 39) (.t 38), none⟩] [[], [], [1], [], [1, 2, 3], List.range 5, [], [6], [], [8], [6, 7, 8, 9], List.range 11, List.range 12, List.range 13] [1, 2, 4, 6] [2, 4, 6, 27, 32, 38, 10905, 10906, 14300])
  (.seq (.reg [⟨some 40, .faddr 6 (.t 2), none⟩,
    ⟨some 41, .load false 1 (.t 40), none⟩,
    ⟨some 42, .mv (.t 1), none⟩,
    ⟨some 43, .call 133 [.t 41, .t 42] [] [(0, 14300)], none⟩,
    ⟨some 44, .faddr 6 (.t 6), none⟩,
    ⟨none, .store 1 (.t 44) (.t 43), none⟩] [4, 6] [4, 6, 27, 32, 38, 10905, 10906, 14300])
  (.seq (.reg [⟨some 45, .load true 7 (.t 6), none⟩,
    ⟨none, .store 7 (.t 4) (.t 45), none⟩,
    ⟨some 5, .mv (.k (.bool true)), none⟩] [4, 5] [4, 27, 32, 38, 10905, 10906, 14300])
  (.ret)))))))
def spec_TakeOut.m : Fn := { np := 2, body := spec_TakeOut.b, res := [.cell 4 true 7, .tmp 5] }
def spec_TakeOut.k (M : Nat → Option Body) : Prop := M 86 = some (.code spec_TakeOut.m) ∧ spec_BoxOk.k M ∧ spec_MailAt.k M ∧ spec_l06Put.k M ∧ spec_l06Copy.k M
end Mx

namespace Mx
open Go
def spec_l01New.l0 : C := .seq (.seq (.reg [⟨some 8, .mv (.t 4), none⟩,
    ⟨some 9, .mv (.t 0), none⟩,
    ⟨some 10, .len (.t 9), none⟩,
    ⟨some 11, .bin .lss (.t 8) (.t 10), none⟩,
    ⟨some 12, .mv (.t 11), none⟩,
    ⟨some 13, .mv (.t 4), some (12, true)⟩,
    ⟨some 14, .bin .lss (.t 13) (.k (.int .i64 4000)), some (12, true)⟩,
    ⟨some 15, .pick (.t 12) (.t 14) (.k (.bool false)), none⟩] [0, 3, 4, 15] [])
  (.cond (.t 15) (.skip) (.exit 0)))
  (.seq (.block 1 (.reg [⟨some 18, .mv (.t 3), none⟩,
    ⟨some 19, .bin .mul (.t 18) (.k (.int .i64 131)), none⟩,
    ⟨some 20, .mv (.t 0), none⟩,
    ⟨some 21, .mv (.t 4), none⟩,
    ⟨some 22, .iaddr 1 (.t 20) (.t 21), none⟩,
    ⟨some 23, .load false 1 (.t 22), none⟩,
    ⟨some 24, .i2i .i64 (.t 23), none⟩,
    ⟨some 25, .bin .add (.t 19) (.t 24), none⟩,
    ⟨some 26, .bin .add (.t 25) (.k (.int .i64 7)), none⟩,
    ⟨some 27, .bin .and (.t 26) (.k (.int .i64 1073741823)), none⟩,
    ⟨some 3, .mv (.t 27), none⟩] [0, 3, 4] []))
  (.reg [⟨some 16, .mv (.t 4), none⟩,
    ⟨some 17, .bin .add (.t 16) (.k (.int .i64 1)), none⟩,
    ⟨some 4, .mv (.t 17), none⟩] [0, 3, 4] []))
def spec_l01New.b : C := .seq (.reg [⟨some 2, .np, none⟩] [0] [])
  (.seq (.reg [⟨some 5, .mv (.t 0), none⟩,
    ⟨some 6, .len (.t 5), none⟩,
    ⟨some 7, .bin .add (.k (.int .i64 77201)) (.t 6), none⟩,
    ⟨some 3, .mv (.t 7), none⟩] [0, 3] [])
  (.seq (.seq (.reg [⟨some 4, .mv (.k (.int .i64 0)), none⟩] [0, 3, 4] [])
  (.block 0 (.loop spec_l01New.l0)))
  (.seq (.reg [⟨some 28, .mv (.t 0), none⟩,
    ⟨some 29, .mv (.t 3), none⟩,
    ⟨some 30, .build [.nils 1, .int .i64 0, .int .i64 0] [(0, 1, .t 28), (2, 1, .t 29)], none⟩,
    ⟨some 31, .box (.t 30), none⟩,
    ⟨some 2, .mv (.t 31), none⟩] [2] [31])
  (.ret))))
def spec_l01New.m : Fn := { np := 1, body := spec_l01New.b, res := [.tmp 2] }
def spec_l01New.k (M : Nat → Option Body) : Prop := M 124 = some (.code spec_l01New.m)
def spec_l01Byte.b : C := .seq (.reg [⟨some 2, .mv (.k (.int .i64 0)), none⟩] [0] [0])
  (.seq (.reg [⟨some 4, .mv (.t 0), none⟩,
    ⟨some 5, .mv (.t 0), none⟩,
    ⟨some 6, .nilc (.t 5), none⟩,
    ⟨some 7, .faddr 2 (.t 6), none⟩,
    ⟨some 8, .load false 1 (.t 7), none⟩,
    ⟨some 9, .bin .mul (.t 8) (.k (.int .i64 6364136223846793005)), none⟩,
    ⟨some 10, .bin .add (.t 9) (.k (.int .i64 1442695040888963407)), none⟩,
    ⟨some 11, .nilc (.t 4), none⟩,
    ⟨some 12, .faddr 2 (.t 11), none⟩,
    ⟨none, .store 1 (.t 12) (.t 10), none⟩] [0] [0])
  (.seq (.regd [⟨some 13, .mv (.t 0), none⟩,
    ⟨some 14, .nilc (.t 13), none⟩,
    ⟨some 15, .faddr 2 (.t 14), none⟩,
    ⟨some 16, .load false 1 (.t 15), none⟩,
    ⟨some 17, .bin .shr (.t 16) (.k (.int .u64 33)), none⟩,
    ⟨some 18, .mv (.t 0), none⟩,
    ⟨some 19, .nilc (.t 18), none⟩,
    ⟨some 20, .faddr 2 (.t 19), none⟩,
    ⟨some 21, .load false 1 (.t 20), none⟩,
    ⟨some 22, .bin .shr (.t 21) (.k (.int .u64 45)), none⟩,
    ⟨some 23, .bin .xor (.t 17) (.t 22), none⟩,
    ⟨some 24, .bin .and (.t 23) (.k (.int .i64 255)), none⟩,
    ⟨some 3, .mv (.t 24), none⟩] [[], [0], [0, 1], [0, 1, 2], List.range 4, [], [5], [5, 6], [5, 6, 7], [5, 6, 7, 8], List.range 10, List.range 11, List.range 12] [0, 3] [0])
  (.seq (.seq (.regd [⟨some 25, .mv (.t 0), none⟩,
    ⟨some 26, .nilc (.t 25), none⟩,
    ⟨some 27, .faddr 1 (.t 26), none⟩,
    ⟨some 28, .load false 1 (.t 27), none⟩,
    ⟨some 29, .mv (.t 0), none⟩,
    ⟨some 30, .nilc (.t 29), none⟩,
    ⟨some 31, .faddr 0 (.t 30), none⟩,
    ⟨some 32, .load false 1 (.t 31), none⟩,
    ⟨some 33, .len (.t 32), none⟩,
    ⟨some 34, .bin .lss (.t 28) (.t 33), none⟩] [[], [0], [0, 1], [0, 1, 2], [], [4], [4, 5], [4, 5, 6], [4, 5, 6, 7], List.range 9] [0, 3, 34] [0])
  (.cond (.t 34) (.seq (.regd [⟨some 35, .mv (.t 3), none⟩,
    ⟨some 36, .mv (.t 0), none⟩,
    ⟨some 37, .nilc (.t 36), none⟩,
    ⟨some 38, .faddr 0 (.t 37), none⟩,
    ⟨some 39, .load false 1 (.t 38), none⟩,
    ⟨some 40, .mv (.t 0), none⟩,
    ⟨some 41, .nilc (.t 40), none⟩,
    ⟨some 42, .faddr 1 (.t 41), none⟩,
    ⟨some 43, .load false 1 (.t 42), none⟩,
    ⟨some 44, .iaddr 1 (.t 39) (.t 43), none⟩,
    ⟨some 45, .load false 1 (.t 44), none⟩,
    ⟨some 46, .i2i .i64 (.t 45), none⟩,
    ⟨some 47, .bin .add (.t 35) (.t 46), none⟩,
    ⟨some 48, .bin .and (.t 47) (.k (.int .i64 255)), none⟩,
    ⟨some 3, .mv (.t 48), none⟩] [[], [], [1], [1, 2], [1, 2, 3], [], [5], [5, 6], [5, 6, 7], [1, 2, 3, 4, 5, 6, 7, 8], [1, 2, 3, 4, 5, 6, 7, 8, 9], [1, 2, 3, 4, 5, 6, 7, 8, 9, 10], List.range 12, List.range 13, List.range 14] [0, 3] [0])
  (.reg [⟨some 49, .mv (.t 0), none⟩,
    ⟨some 50, .mv (.t 0), none⟩,
    ⟨some 51, .nilc (.t 50), none⟩,
    ⟨some 52, .faddr 1 (.t 51), none⟩,
    ⟨some 53, .load false 1 (.t 52), none⟩,
    ⟨some 54, .bin .add (.t 53) (.k (.int .i64 1)), none⟩,
    ⟨some 55, .nilc (.t 49), none⟩,
    ⟨some 56, .faddr 1 (.t 55), none⟩,
    ⟨none, .store 1 (.t 56) (.t 54), none⟩] [3] [0])) (.skip)))
  (.seq (.reg [⟨some 57, .mv (.t 3), none⟩,
    ⟨some 2, .mv (.t 57), none⟩] [2] [0])
  (.ret)))))
def spec_l01Byte.m : Fn := { np := 1, body := spec_l01Byte.b, res := [.tmp 2] }
def spec_l01Byte.k (M : Nat → Option Body) : Prop := M 131 = some (.code spec_l01Byte.m)
def spec_l01Below.b : C := .seq (.reg [⟨some 4, .mv (.k (.int .i64 0)), none⟩] [0, 1] [0])
  (.seq (.seq (.reg [⟨some 9, .mv (.t 1), none⟩,
    ⟨some 10, .bin .leq (.t 9) (.k (.int .i64 0)), none⟩] [0, 1, 10] [0])
  (.cond (.t 10) (.seq (.reg [⟨some 4, .mv (.k (.int .i64 0)), none⟩] [4] [0])
  (.ret)) (.skip)))
  (.seq (.seq (.reg [⟨some 11, .mv (.t 1), none⟩,
    ⟨some 12, .bin .leq (.t 11) (.k (.int .i64 256)), none⟩] [0, 1, 12] [0])
  (.cond (.t 12) (.seq (.reg [⟨some 13, .mv (.t 0), none⟩,
    ⟨some 14, .call 131 [.t 13] [0] [], none⟩,
    ⟨some 15, .mv (.t 1), none⟩,
    ⟨some 16, .bin .rem (.t 14) (.t 15), none⟩,
    ⟨some 4, .mv (.t 16), none⟩] [4] [0])
  (.ret)) (.skip)))
  (.seq (.reg [⟨some 17, .mv (.t 0), none⟩,
    ⟨some 18, .call 131 [.t 17] [0] [], none⟩,
    ⟨some 5, .mv (.t 18), none⟩] [0, 1, 5] [0])
  (.seq (.reg [⟨some 19, .mv (.t 0), none⟩,
    ⟨some 20, .call 131 [.t 19] [0] [], none⟩,
    ⟨some 6, .mv (.t 20), none⟩] [0, 1, 5, 6] [0])
  (.seq (.reg [⟨some 21, .mv (.t 0), none⟩,
    ⟨some 22, .call 131 [.t 21] [0] [], none⟩,
    ⟨some 7, .mv (.t 22), none⟩] [0, 1, 5, 6, 7] [0])
  (.seq (.reg [⟨some 23, .mv (.t 0), none⟩,
    ⟨some 24, .call 131 [.t 23] [0] [], none⟩,
    ⟨some 8, .mv (.t 24), none⟩] [1, 5, 6, 7, 8] [0])
  (.seq (.reg [⟨some 25, .mv (.t 5), none⟩,
    ⟨some 26, .bin .mul (.t 25) (.k (.int .i64 16777216)), none⟩,
    ⟨some 27, .mv (.t 6), none⟩,
    ⟨some 28, .bin .mul (.t 27) (.k (.int .i64 65536)), none⟩,
    ⟨some 29, .bin .add (.t 26) (.t 28), none⟩,
    ⟨some 30, .mv (.t 7), none⟩,
    ⟨some 31, .bin .mul (.t 30) (.k (.int .i64 256)), none⟩,
    ⟨some 32, .bin .add (.t 29) (.t 31), none⟩,
    ⟨some 33, .mv (.t 8), none⟩,
    ⟨some 34, .bin .add (.t 32) (.t 33), none⟩,
    ⟨some 35, .mv (.t 1), none⟩,
    ⟨some 36, .bin .rem (.t 34) (.t 35), none⟩,
    ⟨some 4, .mv (.t 36), none⟩] [4] [0])
  (.ret))))))))
def spec_l01Below.m : Fn := { np := 2, body := spec_l01Below.b, res := [.tmp 4] }
def spec_l01Below.k (M : Nat → Option Body) : Prop := M 125 = some (.code spec_l01Below.m) ∧ spec_l01Byte.k M
def spec_l01Pick.b : C := .seq (.reg [⟨some 4, .mv (.k (.str ⟨#[]⟩)), none⟩] [0, 1] [0])
  (.seq (.reg [⟨some 5, .mv (.t 1), none⟩,
    ⟨some 6, .mv (.t 0), none⟩,
    ⟨some 7, .mv (.t 1), none⟩,
    ⟨some 8, .len (.t 7), none⟩,
    ⟨some 9, .call 125 [.t 6, .t 8] [0] [], none⟩,
    ⟨some 10, .iaddr 1 (.t 5) (.t 9), none⟩,
    ⟨some 11, .load false 1 (.t 10), none⟩,
    ⟨some 4, .mv (.t 11), none⟩] [4] [0])
  (.ret))
def spec_l01Pick.m : Fn := { np := 2, body := spec_l01Pick.b, res := [.tmp 4] }
def spec_l01Pick.k (M : Nat → Option Body) : Prop := M 185 = some (.code spec_l01Pick.m) ∧ spec_l01Below.k M
def spec_l05Text.b : C := .seq (.reg [⟨some 2, .mv (.k (.str ⟨#[]⟩)), none⟩] [0] [0])
  (.seq (.reg [⟨some 3, .mv (.t 0), none⟩,
    ⟨some 4, .bslf 1 6 [.str ⟨#[]⟩] [(0, .k (.str ⟨#[104, 101, 108, 108, 111]⟩)), (1, .k (.str ⟨#[104, 105, 10]⟩)), (2, .k (.str ⟨#[]⟩)), (3, .k (.str ⟨#[116, 101, 120, 116, 32, 111, 102, 32, 105, 116]⟩)), (4, .k (.str ⟨#[0, 255]⟩)), (5, .k (.str ⟨#[97, 32, 98]⟩))], none⟩,
    ⟨some 5, .call 185 [.t 3, .t 4] [0] [], none⟩,
    ⟨some 2, .mv (.t 5), none⟩] [2] [0])
  (.ret))
def spec_l05Text.m : Fn := { np := 1, body := spec_l05Text.b, res := [.tmp 2] }
def spec_l05Text.k (M : Nat → Option Body) : Prop := M 174 = some (.code spec_l05Text.m) ∧ spec_l01Pick.k M
def spec_l03Stamp.b : C := .seq (.reg [⟨some 2, .alloc [.int .i64 0, .int .i64 0], none⟩] [0, 2] [0, 2])
  (.seq (.reg [⟨some 3, .mv (.t 0), none⟩,
    ⟨some 4, .call 125 [.t 3, .k (.int .i64 12)] [0] [], none⟩,
    ⟨some 5, .mv (.t 0), none⟩,
    ⟨some 6, .call 125 [.t 5, .k (.int .i64 2)] [0] [], none⟩,
    ⟨some 7, .bin .add (.k (.int .i64 1)) (.t 6), none⟩,
    ⟨some 8, .build [.int .i64 0, .int .i64 0] [(0, 1, .t 4), (1, 1, .t 7)], none⟩,
    ⟨none, .store 2 (.t 2) (.t 8), none⟩] [2] [0, 2])
  (.ret))
def spec_l03Stamp.m : Fn := { np := 1, body := spec_l03Stamp.b, res := [.cell 2 true 2] }
def spec_l03Stamp.k (M : Nat → Option Body) : Prop := M 232 = some (.code spec_l03Stamp.m) ∧ spec_l01Below.k M
def spec_l06Box.l0 : C := .seq (.seq (.reg [⟨some 18, .mv (.t 5), none⟩,
    ⟨some 19, .mv (.t 0), none⟩,
    ⟨some 20, .call 125 [.t 19, .k (.int .i64 12)] [0] [], none⟩,
    ⟨some 21, .bin .lss (.t 18) (.t 20), none⟩] [0, 2, 4, 5, 21] [0, 2, 4, 14905, 14906])
  (.cond (.t 21) (.skip) (.exit 0)))
  (.seq (.block 1 (.seq (.reg [⟨some 24, .mv (.t 0), none⟩,
    ⟨some 25, .call 125 [.t 24, .k (.int .i64 9)] [0] [], none⟩,
    ⟨some 26, .bin .add (.k (.int .i64 10)) (.t 25), none⟩,
    ⟨some 6, .mv (.t 26), none⟩] [0, 2, 4, 5, 6] [0, 2, 4, 14905, 14906])
  (.seq (.reg [⟨some 27, .mv (.t 0), none⟩,
    ⟨some 28, .call 232 [.t 27] [0] [], none⟩,
    ⟨some 7, .alloc [.int .i64 0, .int .i64 0], none⟩,
    ⟨none, .store 2 (.t 7) (.t 28), none⟩] [0, 2, 4, 5, 6, 7] [0, 2, 4, 7, 14905, 14906])
  (.seq (.reg [⟨some 29, .mv (.t 0), none⟩,
    ⟨some 30, .call 125 [.t 29, .k (.int .i64 5)] [0] [], none⟩] [0, 2, 4, 5, 6, 7, 30] [0, 2, 4, 7, 14905, 14906])
  (.block 2 (.seq (.seq (.reg [⟨some 38, .bin .eql (.t 30) (.k (.int .i64 0)), none⟩,
    ⟨some 37, .mv (.t 38), none⟩] [0, 2, 4, 5, 6, 7, 30, 37] [0, 2, 4, 7, 14905, 14906])
  (.cond (.t 37) (.skip) (.seq (.reg [⟨some 39, .bin .eql (.t 30) (.k (.int .i64 1)), none⟩,
    ⟨some 37, .mv (.t 39), none⟩] [0, 2, 4, 5, 6, 7, 30, 37] [0, 2, 4, 7, 14905, 14906])
  (.cond (.t 37) (.skip) (.reg [⟨some 40, .bin .eql (.t 30) (.k (.int .i64 2)), none⟩,
    ⟨some 37, .mv (.t 40), none⟩] [0, 2, 4, 5, 6, 7, 30, 37] [0, 2, 4, 7, 14905, 14906])))))
  (.cond (.t 37) (.shut [14905, 14906] (.regd [⟨some 42, .load true 7 (.t 4), none⟩,
    ⟨some 43, .mv (.t 6), none⟩,
    ⟨some 44, .mv (.t 0), none⟩,
    ⟨some 45, .call 125 [.t 44, .k (.int .i64 8)] [0] [], none⟩,
    ⟨some 46, .mv (.t 0), none⟩,
    ⟨some 47, .call 174 [.t 46] [0] [], none⟩,
    ⟨some 48, .load true 2 (.t 7), none⟩,
    ⟨some 49, .call 81 [.t 42, .t 43, .t 45, .t 47, .t 48] [] [(5, 14905), (6, 14906)], none⟩,
    ⟨some 41, .mv (.t 49), none⟩,
    ⟨some 50, .ext 0 (.t 41), none⟩,
    ⟨some 51, .ext 1 (.t 41), none⟩,
    ⟨none, .store 7 (.t 4) (.t 50), none⟩] [[], [], [], [2], [], [2, 3, 4], [], List.range 7, List.range 8, List.range 9, List.range 9, List.range 10] [0, 2, 4, 5] [0, 2, 4, 14905, 14906])) (.seq (.reg [⟨some 53, .bin .eql (.t 30) (.k (.int .i64 3)), none⟩,
    ⟨some 52, .mv (.t 53), none⟩] [0, 2, 4, 5, 6, 7, 52] [0, 2, 4, 7, 14905, 14906])
  (.cond (.t 52) (.shut [14905, 14906] (.regd [⟨some 55, .load true 7 (.t 4), none⟩,
    ⟨some 56, .mv (.t 6), none⟩,
    ⟨some 57, .mv (.t 0), none⟩,
    ⟨some 58, .call 125 [.t 57, .k (.int .i64 8)] [0] [], none⟩,
    ⟨some 59, .load true 2 (.t 7), none⟩,
    ⟨some 60, .call 84 [.t 55, .t 56, .t 58, .t 59] [] [(5, 14905), (6, 14906)], none⟩,
    ⟨some 54, .mv (.t 60), none⟩,
    ⟨some 61, .ext 0 (.t 54), none⟩,
    ⟨some 62, .ext 1 (.t 54), none⟩,
    ⟨none, .store 7 (.t 4) (.t 61), none⟩] [[], [], [], [2], [], List.range 5, List.range 6, List.range 7, List.range 7, List.range 8] [0, 2, 4, 5] [0, 2, 4, 14905, 14906])) (.shut [14905, 14906] (.reg [⟨some 32, .load true 7 (.t 4), none⟩,
    ⟨some 33, .mv (.t 6), none⟩,
    ⟨some 34, .call 86 [.t 32, .t 33] [] [(5, 14905), (6, 14906)], none⟩,
    ⟨some 31, .mv (.t 34), none⟩,
    ⟨some 35, .ext 0 (.t 31), none⟩,
    ⟨some 36, .ext 1 (.t 31), none⟩,
    ⟨none, .store 7 (.t 4) (.t 35), none⟩] [0, 2, 4, 5] [0, 2, 4, 14905, 14906])))))))))))
  (.reg [⟨some 22, .mv (.t 5), none⟩,
    ⟨some 23, .bin .add (.t 22) (.k (.int .i64 1)), none⟩,
    ⟨some 5, .mv (.t 23), none⟩] [0, 2, 4, 5] [0, 2, 4, 14905, 14906]))
def spec_l06Box.b : C := .seq (.reg [⟨some 2, .alloc [.int .i64 0, .str ⟨#[]⟩, .int .i64 0, .int .i64 0, .int .i64 0, .nils 4, .nils 1], none⟩] [0, 2] [0, 2, 14905, 14906])
  (.seq (.reg [⟨some 8, .mv (.t 0), none⟩,
    ⟨some 9, .call 232 [.t 8] [0] [], none⟩,
    ⟨some 3, .alloc [.int .i64 0, .int .i64 0], none⟩,
    ⟨none, .store 2 (.t 3) (.t 9), none⟩] [0, 2, 3] [0, 2, 3, 14905, 14906])
  (.seq (.regd [⟨some 10, .mv (.t 0), none⟩,
    ⟨some 11, .bslf 1 3 [.str ⟨#[]⟩] [(0, .k (.str ⟨#[105, 110, 98, 111, 120]⟩)), (1, .k (.str ⟨#[119, 111, 114, 107]⟩)), (2, .k (.str ⟨#[111, 108, 100, 57]⟩))], none⟩,
    ⟨some 12, .call 185 [.t 10, .t 11] [0] [], none⟩,
    ⟨some 13, .load true 2 (.t 3), none⟩,
    ⟨some 14, .mv (.t 0), none⟩,
    ⟨some 15, .call 125 [.t 14, .k (.int .i64 4)] [0] [], none⟩,
    ⟨some 16, .bin .add (.k (.int .i64 1)) (.t 15), none⟩,
    ⟨some 17, .build [.int .i64 0, .str ⟨#[]⟩, .int .i64 0, .int .i64 0, .int .i64 0, .nils 4, .nils 1] [(0, 1, .k (.int .i64 7)), (1, 1, .t 12), (2, 2, .t 13), (4, 1, .t 16)], none⟩,
    ⟨some 4, .alloc [.int .i64 0, .str ⟨#[]⟩, .int .i64 0, .int .i64 0, .int .i64 0, .nils 4, .nils 1], none⟩,
    ⟨none, .store 7 (.t 4) (.t 17), none⟩] [[], [], [0, 1], [], [], [0, 1, 2, 4], [0, 1, 2, 4, 5], List.range 7, [], List.range 9] [0, 2, 4] [0, 2, 4, 14905, 14906])
  (.seq (.seq (.reg [⟨some 5, .mv (.k (.int .i64 0)), none⟩] [0, 2, 4, 5] [0, 2, 4, 14905, 14906])
  (.block 0 (.loop spec_l06Box.l0)))
  (.seq (.reg [⟨some 63, .load true 7 (.t 4), none⟩,
    ⟨none, .store 7 (.t 2) (.t 63), none⟩] [2] [0, 2, 14905, 14906])
  (.ret)))))
def spec_l06Box.m : Fn := { np := 1, body := spec_l06Box.b, res := [.cell 2 true 7] }
def spec_l06Box.k (M : Nat → Option Body) : Prop := M 154 = some (.code spec_l06Box.m) ∧ spec_AddMail.k M ∧ spec_FlagMail.k M ∧ spec_TakeOut.k M ∧ spec_l01Below.k M ∧ spec_l05Text.k M ∧ spec_l01Pick.k M ∧ spec_l03Stamp.k M
end Mx

namespace Mx
open Go
def laws_big.b : C := .seq (.reg [⟨some 2, .mv (.k (.bool false)), none⟩] [0] [])
  (.seq (.reg [⟨some 3, .mv (.t 0), none⟩,
    ⟨some 4, .len (.t 3), none⟩,
    ⟨some 5, .bin .gtr (.t 4) (.k (.int .i64 1048576)), none⟩,
    ⟨some 2, .mv (.t 5), none⟩] [2] [])
  (.ret))
def laws_big.m : Fn := { np := 1, body := laws_big.b, res := [.tmp 2] }
def laws_big.k (M : Nat → Option Body) : Prop := M 36 = some (.code laws_big.m)
end Mx

namespace Mx
open Go
def spec_l01PickInt.b : C := .seq (.reg [⟨some 4, .mv (.k (.int .i64 0)), none⟩] [0, 1] [0])
  (.seq (.reg [⟨some 5, .mv (.t 1), none⟩,
    ⟨some 6, .mv (.t 0), none⟩,
    ⟨some 7, .mv (.t 1), none⟩,
    ⟨some 8, .len (.t 7), none⟩,
    ⟨some 9, .call 125 [.t 6, .t 8] [0] [], none⟩,
    ⟨some 10, .iaddr 1 (.t 5) (.t 9), none⟩,
    ⟨some 11, .load false 1 (.t 10), none⟩,
    ⟨some 4, .mv (.t 11), none⟩] [4] [0])
  (.ret))
def spec_l01PickInt.m : Fn := { np := 2, body := spec_l01PickInt.b, res := [.tmp 4] }
def spec_l01PickInt.k (M : Nat → Option Body) : Prop := M 179 = some (.code spec_l01PickInt.m) ∧ spec_l01Below.k M
def spec_l01Once.b : C := .seq (.reg [⟨some 4, .mv (.k (.bool false)), none⟩] [0, 1] [0])
  (.seq (.reg [⟨some 5, .mv (.t 0), none⟩,
    ⟨some 6, .mv (.t 1), none⟩,
    ⟨some 7, .call 125 [.t 5, .t 6] [0] [], none⟩,
    ⟨some 8, .bin .eql (.t 7) (.k (.int .i64 0)), none⟩,
    ⟨some 4, .mv (.t 8), none⟩] [4] [0])
  (.ret))
def spec_l01Once.m : Fn := { np := 2, body := spec_l01Once.b, res := [.tmp 4] }
def spec_l01Once.k (M : Nat → Option Body) : Prop := M 175 = some (.code spec_l01Once.m) ∧ spec_l01Below.k M
def spec_l01Long.l0 : C := .seq (.seq (.reg [⟨some 9, .mv (.t 6), none⟩,
    ⟨some 10, .mv (.t 0), none⟩,
    ⟨some 11, .bin .lss (.t 9) (.t 10), none⟩] [0, 1, 5, 6, 11] [8])
  (.cond (.t 11) (.skip) (.exit 0)))
  (.seq (.block 1 (.reg [⟨some 14, .mv (.t 5), none⟩,
    ⟨some 15, .mv (.t 6), none⟩,
    ⟨some 16, .mv (.t 1), none⟩,
    ⟨some 17, .iaddr 1 (.t 14) (.t 15), none⟩,
    ⟨none, .store 1 (.t 17) (.t 16), none⟩] [0, 1, 5, 6] [8]))
  (.reg [⟨some 12, .mv (.t 6), none⟩,
    ⟨some 13, .bin .add (.t 12) (.k (.int .i64 1)), none⟩,
    ⟨some 6, .mv (.t 13), none⟩] [0, 1, 5, 6] [8]))
def spec_l01Long.b : C := .seq (.reg [⟨some 4, .mv (.k (.str ⟨#[]⟩)), none⟩] [0, 1] [])
  (.seq (.reg [⟨some 7, .mv (.t 0), none⟩,
    ⟨some 8, .mks 1 1 [.int .u8 0] (.t 7), none⟩,
    ⟨some 5, .mv (.t 8), none⟩] [0, 1, 5] [8])
  (.seq (.seq (.reg [⟨some 6, .mv (.k (.int .i64 0)), none⟩] [0, 1, 5, 6] [8])
  (.block 0 (.loop spec_l01Long.l0)))
  (.seq (.reg [⟨some 18, .mv (.t 5), none⟩,
    ⟨some 19, .b2s (.t 18), none⟩,
    ⟨some 4, .mv (.t 19), none⟩] [4] [])
  (.ret))))
def spec_l01Long.m : Fn := { np := 2, body := spec_l01Long.b, res := [.tmp 4] }
def spec_l01Long.k (M : Nat → Option Body) : Prop := M 176 = some (.code spec_l01Long.m)
def spec_l03Any.b : C := .seq (.reg [⟨some 2, .alloc [.int .i64 0, .int .i64 0], none⟩] [0, 2] [0, 2])
  (.seq (.reg [⟨some 4, .mv (.t 0), none⟩,
    ⟨some 5, .call 232 [.t 4] [0] [], none⟩,
    ⟨some 3, .alloc [.int .i64 0, .int .i64 0], none⟩,
    ⟨none, .store 2 (.t 3) (.t 5), none⟩] [0, 2, 3] [0, 2, 3])
  (.seq (.seq (.reg [⟨some 6, .mv (.t 0), none⟩,
    ⟨some 7, .call 125 [.t 6, .k (.int .i64 8)] [0] [], none⟩] [0, 2, 3, 7] [0, 2, 3])
  (.block 0 (.seq (.reg [⟨some 9, .bin .eql (.t 7) (.k (.int .i64 0)), none⟩,
    ⟨some 8, .mv (.t 9), none⟩] [0, 2, 3, 7, 8] [0, 2, 3])
  (.cond (.t 8) (.reg [⟨some 10, .mv (.t 0), none⟩,
    ⟨some 11, .bslf 1 3 [.int .i64 0] [(0, .k (.int .i64 (-1))), (1, .k (.int .i64 100000)), (2, .k (.int .i64 100001))], none⟩,
    ⟨some 12, .call 179 [.t 10, .t 11] [0] [], none⟩,
    ⟨some 13, .faddr 0 (.t 3), none⟩,
    ⟨none, .store 1 (.t 13) (.t 12), none⟩] [2, 3] [0, 2, 3]) (.seq (.reg [⟨some 15, .bin .eql (.t 7) (.k (.int .i64 1)), none⟩,
    ⟨some 14, .mv (.t 15), none⟩] [0, 2, 3, 14] [0, 2, 3])
  (.cond (.t 14) (.reg [⟨some 16, .mv (.t 0), none⟩,
    ⟨some 17, .bslf 1 3 [.int .i64 0] [(0, .k (.int .i64 (-1))), (1, .k (.int .i64 0)), (2, .k (.int .i64 3))], none⟩,
    ⟨some 18, .call 179 [.t 16, .t 17] [0] [], none⟩,
    ⟨some 19, .faddr 1 (.t 3), none⟩,
    ⟨none, .store 1 (.t 19) (.t 18), none⟩] [2, 3] [0, 2, 3]) (.skip)))))))
  (.seq (.reg [⟨some 20, .load true 2 (.t 3), none⟩,
    ⟨none, .store 2 (.t 2) (.t 20), none⟩] [2] [0, 2])
  (.ret))))
def spec_l03Any.m : Fn := { np := 1, body := spec_l03Any.b, res := [.cell 2 true 2] }
def spec_l03Any.k (M : Nat → Option Body) : Prop := M 177 = some (.code spec_l03Any.m) ∧ spec_l01Below.k M ∧ spec_l01PickInt.k M ∧ spec_l03Stamp.k M
def spec_l03Reg.b : C := .seq (.reg [⟨some 2, .alloc [.int .i64 0, .int .i64 0, .int .i64 0], none⟩] [0, 2] [0, 2])
  (.seq (.reg [⟨some 4, .mv (.t 0), none⟩,
    ⟨some 5, .call 177 [.t 4] [0] [], none⟩,
    ⟨some 3, .alloc [.int .i64 0, .int .i64 0], none⟩,
    ⟨none, .store 2 (.t 3) (.t 5), none⟩] [0, 2, 3] [0, 2, 3])
  (.seq (.regd [⟨some 6, .mv (.t 0), none⟩,
    ⟨some 7, .bslf 1 6 [.int .i64 0] [(0, .k (.int .i64 0)), (1, .k (.int .i64 1)), (2, .k (.int .i64 1)), (3, .k (.int .i64 7)), (4, .k (.int .i64 (-1))), (5, .k (.int .i64 1000000001))], none⟩,
    ⟨some 8, .call 179 [.t 6, .t 7] [0] [], none⟩,
    ⟨some 9, .load true 2 (.t 3), none⟩,
    ⟨some 10, .build [.int .i64 0, .int .i64 0, .int .i64 0] [(0, 1, .t 8), (1, 2, .t 9)], none⟩,
    ⟨none, .store 3 (.t 2) (.t 10), none⟩] [[], [], [0, 1], [], List.range 4, List.range 5] [2] [0, 2])
  (.ret)))
def spec_l03Reg.m : Fn := { np := 1, body := spec_l03Reg.b, res := [.cell 2 true 3] }
def spec_l03Reg.k (M : Nat → Option Body) : Prop := M 299 = some (.code spec_l03Reg.m) ∧ spec_l03Any.k M ∧ spec_l01PickInt.k M
def spec_l04Flags.l0 : C := .seq (.seq (.reg [⟨some 7, .mv (.t 4), none⟩,
    ⟨some 8, .bin .lss (.t 7) (.k (.int .i64 3)), none⟩] [0, 3, 4, 8] [0, 6, 19])
  (.cond (.t 8) (.skip) (.exit 0)))
  (.seq (.block 1 (.seq (.reg [⟨some 11, .mv (.t 0), none⟩,
    ⟨some 12, .call 232 [.t 11] [0] [], none⟩,
    ⟨some 5, .alloc [.int .i64 0, .int .i64 0], none⟩,
    ⟨none, .store 2 (.t 5) (.t 12), none⟩] [0, 3, 4, 5] [0, 5, 6, 19])
  (.regd [⟨some 13, .mv (.t 3), none⟩,
    ⟨some 14, .mv (.t 0), none⟩,
    ⟨some 15, .call 125 [.t 14, .k (.int .i64 2)] [0] [], none⟩,
    ⟨some 16, .load true 2 (.t 5), none⟩,
    ⟨some 17, .build [.int .i64 0, .int .i64 0, .int .i64 0] [(0, 1, .t 15), (1, 2, .t 16)], none⟩,
    ⟨some 18, .bslice 3 1 [.int .i64 0, .int .i64 0, .int .i64 0] [(0, .t 17)], none⟩,
    ⟨some 19, .app 3 24 (.t 13) (.t 18), none⟩,
    ⟨some 3, .mv (.t 19), none⟩] [[], [], [1], [], [1, 2, 3], [1, 2, 3, 4], List.range 6, List.range 7] [0, 3, 4] [0, 6, 19])))
  (.reg [⟨some 9, .mv (.t 4), none⟩,
    ⟨some 10, .bin .add (.t 9) (.k (.int .i64 1)), none⟩,
    ⟨some 4, .mv (.t 10), none⟩] [0, 3, 4] [0, 6, 19]))
def spec_l04Flags.b : C := .seq (.reg [⟨some 2, .nil 3, none⟩] [0] [0])
  (.seq (.reg [⟨some 6, .bslice 3 0 [.int .i64 0, .int .i64 0, .int .i64 0] [], none⟩,
    ⟨some 3, .mv (.t 6), none⟩] [0, 3] [0, 6, 19])
  (.seq (.seq (.reg [⟨some 4, .mv (.k (.int .i64 0)), none⟩] [0, 3, 4] [0, 6, 19])
  (.block 0 (.loop spec_l04Flags.l0)))
  (.seq (.reg [⟨some 20, .mv (.t 3), none⟩,
    ⟨some 2, .mv (.t 20), none⟩] [2] [0, 2, 6, 19])
  (.ret))))
def spec_l04Flags.m : Fn := { np := 1, body := spec_l04Flags.b, res := [.tmp 2] }
def spec_l04Flags.k (M : Nat → Option Body) : Prop := M 298 = some (.code spec_l04Flags.m) ∧ spec_l01Below.k M ∧ spec_l03Stamp.k M
def spec_l04Any.b : C := .seq (.reg [⟨some 2, .nil 3, none⟩] [0] [0])
  (.seq (.reg [⟨some 5, .mv (.t 0), none⟩,
    ⟨some 6, .call 125 [.t 5, .k (.int .i64 10)] [0] [], none⟩,
    ⟨some 3, .mv (.t 6), none⟩] [0, 3] [0])
  (.seq (.reg [⟨some 7, .mv (.t 0), none⟩,
    ⟨some 8, .call 298 [.t 7] [0] [(0, 10800)], none⟩,
    ⟨some 4, .mv (.t 8), none⟩] [0, 3, 4] [0, 15, 10800])
  (.seq (.seq (.reg [⟨some 9, .mv (.t 3), none⟩] [0, 4, 9] [0, 15, 10800])
  (.block 0 (.seq (.reg [⟨some 11, .bin .eql (.t 9) (.k (.int .i64 0)), none⟩,
    ⟨some 10, .mv (.t 11), none⟩] [0, 4, 9, 10] [0, 15, 10800])
  (.cond (.t 10) (.reg [⟨some 12, .mv (.t 4), none⟩,
    ⟨some 13, .build [.int .i64 0, .int .i64 0, .int .i64 0] [], none⟩,
    ⟨some 14, .bslice 3 1 [.int .i64 0, .int .i64 0, .int .i64 0] [(0, .t 13)], none⟩,
    ⟨some 15, .app 3 24 (.t 12) (.t 14), none⟩,
    ⟨some 4, .mv (.t 15), none⟩] [4] [0, 15, 10800]) (.seq (.reg [⟨some 17, .bin .eql (.t 9) (.k (.int .i64 1)), none⟩,
    ⟨some 16, .mv (.t 17), none⟩] [0, 4, 9, 16] [0, 15, 10800])
  (.cond (.t 16) (.reg [⟨some 18, .mv (.t 4), none⟩,
    ⟨some 19, .slc 3 (.t 18) (some (.k (.int .i64 1))) none none, none⟩,
    ⟨some 4, .mv (.t 19), none⟩] [4] [0, 15, 10800]) (.seq (.reg [⟨some 21, .bin .eql (.t 9) (.k (.int .i64 2)), none⟩,
    ⟨some 20, .mv (.t 21), none⟩] [0, 4, 20] [0, 15, 10800])
  (.cond (.t 20) (.reg [⟨some 22, .mv (.t 4), none⟩,
    ⟨some 23, .mv (.t 0), none⟩,
    ⟨some 24, .call 125 [.t 23, .k (.int .i64 3)] [0] [], none⟩,
    ⟨some 25, .mv (.t 0), none⟩,
    ⟨some 26, .call 299 [.t 25] [0] [], none⟩,
    ⟨some 27, .iaddr 3 (.t 22) (.t 24), none⟩,
    ⟨none, .store 3 (.t 27) (.t 26), none⟩] [4] [0, 15, 10800]) (.skip)))))))))
  (.seq (.shut [15, 10800] (.reg [⟨some 28, .mv (.t 4), none⟩,
    ⟨some 2, .mv (.t 28), none⟩] [2] [0, 2, 15, 10800]))
  (.ret)))))
def spec_l04Any.m : Fn := { np := 1, body := spec_l04Any.b, res := [.tmp 2] }
def spec_l04Any.k (M : Nat → Option Body) : Prop := M 274 = some (.code spec_l04Any.m) ∧ spec_l01Below.k M ∧ spec_l04Flags.k M ∧ spec_l03Reg.k M
def spec_l05Mail.b : C := .seq (.reg [⟨some 2, .alloc [.int .i64 0, .int .i64 0, .nils 3, .str ⟨#[]⟩], none⟩] [0, 2] [0, 2, 11300])
  (.seq (.reg [⟨some 6, .mv (.t 0), none⟩,
    ⟨some 7, .call 125 [.t 6, .k (.int .i64 6)] [0] [], none⟩,
    ⟨some 8, .bin .add (.k (.int .i64 1)) (.t 7), none⟩,
    ⟨some 3, .mv (.t 8), none⟩] [0, 2, 3] [0, 2, 11300])
  (.seq (.reg [⟨some 9, .mv (.t 0), none⟩,
    ⟨some 10, .call 125 [.t 9, .k (.int .i64 6)] [0] [], none⟩,
    ⟨some 11, .bin .add (.k (.int .i64 1)) (.t 10), none⟩,
    ⟨some 4, .mv (.t 11), none⟩] [0, 2, 3, 4] [0, 2, 11300])
  (.seq (.reg [⟨some 12, .mv (.t 0), none⟩,
    ⟨some 13, .call 298 [.t 12] [0] [(0, 11300)], none⟩,
    ⟨some 5, .mv (.t 13), none⟩] [0, 2, 3, 4, 5] [0, 2, 11300])
  (.seq (.reg [⟨some 14, .mv (.t 3), none⟩,
    ⟨some 15, .mv (.t 4), none⟩,
    ⟨some 16, .mv (.t 5), none⟩,
    ⟨some 17, .mv (.t 0), none⟩,
    ⟨some 18, .call 174 [.t 17] [0] [], none⟩,
    ⟨some 19, .build [.int .i64 0, .int .i64 0, .nils 3, .str ⟨#[]⟩] [(0, 1, .t 14), (1, 1, .t 15), (2, 1, .t 16), (3, 1, .t 18)], none⟩,
    ⟨none, .store 4 (.t 2) (.t 19), none⟩] [2] [0, 2, 11300])
  (.ret)))))
def spec_l05Mail.m : Fn := { np := 1, body := spec_l05Mail.b, res := [.cell 2 true 4] }
def spec_l05Mail.k (M : Nat → Option Body) : Prop := M 273 = some (.code spec_l05Mail.m) ∧ spec_l01Below.k M ∧ spec_l05Text.k M ∧ spec_l04Flags.k M
def spec_l05Any.b : C := .seq (.reg [⟨some 2, .alloc [.int .i64 0, .int .i64 0, .nils 3, .str ⟨#[]⟩], none⟩] [0, 2] [0, 2, 11102, 13200])
  (.seq (.reg [⟨some 6, .mv (.t 0), none⟩,
    ⟨some 7, .call 125 [.t 6, .k (.int .i64 10)] [0] [], none⟩,
    ⟨some 3, .mv (.t 7), none⟩] [0, 2, 3] [0, 2, 11102, 13200])
  (.seq (.reg [⟨some 8, .mv (.t 0), none⟩,
    ⟨some 9, .call 125 [.t 8, .k (.int .i64 60)] [0] [], none⟩,
    ⟨some 4, .mv (.t 9), none⟩] [0, 2, 3, 4] [0, 2, 11102, 13200])
  (.seq (.reg [⟨some 10, .mv (.t 0), none⟩,
    ⟨some 11, .call 273 [.t 10] [0] [], none⟩,
    ⟨some 5, .alloc [.int .i64 0, .int .i64 0, .nils 3, .str ⟨#[]⟩], none⟩,
    ⟨none, .store 4 (.t 5) (.t 11), none⟩] [0, 2, 3, 4, 5] [0, 2, 5, 11102, 13200])
  (.seq (.seq (.reg [⟨some 12, .mv (.t 3), none⟩] [0, 2, 4, 5, 12] [0, 2, 5, 11102, 13200])
  (.block 0 (.seq (.reg [⟨some 14, .bin .eql (.t 12) (.k (.int .i64 0)), none⟩,
    ⟨some 13, .mv (.t 14), none⟩] [0, 2, 4, 5, 12, 13] [0, 2, 5, 11102, 13200])
  (.cond (.t 13) (.reg [⟨some 15, .bslice 1 4 [.int .i64 0] [(0, .k (.int .i64 0)), (1, .k (.int .i64 9999)), (2, .k (.int .i64 10000)), (3, .k (.int .i64 (-1)))], none⟩,
    ⟨some 16, .mv (.t 4), none⟩,
    ⟨some 17, .bin .rem (.t 16) (.k (.int .i64 4)), none⟩,
    ⟨some 18, .iaddr 1 (.t 15) (.t 17), none⟩,
    ⟨some 19, .load false 1 (.t 18), none⟩,
    ⟨some 20, .faddr 0 (.t 5), none⟩,
    ⟨none, .store 1 (.t 20) (.t 19), none⟩] [2, 5] [0, 2, 5, 11102, 13200]) (.seq (.reg [⟨some 22, .bin .eql (.t 12) (.k (.int .i64 1)), none⟩,
    ⟨some 21, .mv (.t 22), none⟩] [0, 2, 4, 5, 12, 21] [0, 2, 5, 11102, 13200])
  (.cond (.t 21) (.reg [⟨some 23, .bslice 1 3 [.int .i64 0] [(0, .k (.int .i64 0)), (1, .k (.int .i64 9999)), (2, .k (.int .i64 10000))], none⟩,
    ⟨some 24, .mv (.t 4), none⟩,
    ⟨some 25, .bin .rem (.t 24) (.k (.int .i64 3)), none⟩,
    ⟨some 26, .iaddr 1 (.t 23) (.t 25), none⟩,
    ⟨some 27, .load false 1 (.t 26), none⟩,
    ⟨some 28, .faddr 1 (.t 5), none⟩,
    ⟨none, .store 1 (.t 28) (.t 27), none⟩] [2, 5] [0, 2, 5, 11102, 13200]) (.seq (.reg [⟨some 30, .bin .eql (.t 12) (.k (.int .i64 2)), none⟩,
    ⟨some 29, .mv (.t 30), none⟩] [0, 2, 4, 5, 12, 29] [0, 2, 5, 11102, 13200])
  (.cond (.t 29) (.reg [⟨some 31, .mv (.t 0), none⟩,
    ⟨some 32, .call 274 [.t 31] [0] [], none⟩,
    ⟨some 33, .faddr 2 (.t 5), none⟩,
    ⟨none, .store 1 (.t 33) (.t 32), none⟩] [2, 5] [0, 2, 5, 11102, 13200]) (.seq (.reg [⟨some 35, .bin .eql (.t 12) (.k (.int .i64 3)), none⟩,
    ⟨some 34, .mv (.t 35), none⟩] [2, 4, 5, 34] [0, 2, 5, 11102, 13200])
  (.cond (.t 34) (.reg [⟨some 36, .mv (.t 4), none⟩,
    ⟨some 37, .bin .rem (.t 36) (.k (.int .i64 2)), none⟩,
    ⟨some 38, .bin .add (.k (.int .i64 60)) (.t 37), none⟩,
    ⟨some 39, .call 176 [.t 38, .k (.int .u8 97)] [] [], none⟩,
    ⟨some 40, .faddr 3 (.t 5), none⟩,
    ⟨none, .store 1 (.t 40) (.t 39), none⟩] [2, 5] [0, 2, 5, 11102, 13200]) (.skip)))))))))))
  (.seq (.reg [⟨some 41, .load true 4 (.t 5), none⟩,
    ⟨none, .store 4 (.t 2) (.t 41), none⟩] [2] [0, 2, 11102, 13200])
  (.ret))))))
def spec_l05Any.m : Fn := { np := 1, body := spec_l05Any.b, res := [.cell 2 true 4] }
def spec_l05Any.k (M : Nat → Option Body) : Prop := M 237 = some (.code spec_l05Any.m) ∧ spec_l01Below.k M ∧ spec_l01Long.k M ∧ spec_l05Mail.k M ∧ spec_l04Any.k M
def spec_l06Any.b : C := .seq (.reg [⟨some 2, .alloc [.int .i64 0, .str ⟨#[]⟩, .int .i64 0, .int .i64 0, .int .i64 0, .nils 4, .nils 1], none⟩] [0, 2] [0, 2, 39, 47, 11205, 11206])
  (.seq (.reg [⟨some 6, .mv (.t 0), none⟩,
    ⟨some 7, .call 125 [.t 6, .k (.int .i64 14)] [0] [], none⟩,
    ⟨some 3, .mv (.t 7), none⟩] [0, 2, 3] [0, 2, 39, 47, 11205, 11206])
  (.seq (.reg [⟨some 8, .mv (.t 0), none⟩,
    ⟨some 9, .call 125 [.t 8, .k (.int .i64 60)] [0] [], none⟩,
    ⟨some 4, .mv (.t 9), none⟩] [0, 2, 3, 4] [0, 2, 39, 47, 11205, 11206])
  (.seq (.reg [⟨some 10, .mv (.t 0), none⟩,
    ⟨some 11, .call 154 [.t 10] [0] [], none⟩,
    ⟨some 12, .call 180 [.t 11] [] [(5, 11205), (6, 11206)], none⟩,
    ⟨some 5, .alloc [.int .i64 0, .str ⟨#[]⟩, .int .i64 0, .int .i64 0, .int .i64 0, .nils 4, .nils 1], none⟩,
    ⟨none, .store 7 (.t 5) (.t 12), none⟩] [0, 2, 3, 4, 5] [0, 2, 5, 39, 47, 11205, 11206])
  (.seq (.seq (.reg [⟨some 13, .mv (.t 3), none⟩] [0, 2, 4, 5, 13] [0, 2, 5, 39, 47, 11205, 11206])
  (.block 0 (.seq (.reg [⟨some 15, .bin .eql (.t 13) (.k (.int .i64 0)), none⟩,
    ⟨some 14, .mv (.t 15), none⟩] [0, 2, 4, 5, 13, 14] [0, 2, 5, 39, 47, 11205, 11206])
  (.cond (.t 14) (.reg [⟨some 16, .mv (.t 4), none⟩,
    ⟨some 17, .bin .rem (.t 16) (.k (.int .i64 3)), none⟩,
    ⟨some 18, .faddr 0 (.t 5), none⟩,
    ⟨none, .store 1 (.t 18) (.t 17), none⟩] [2, 5] [0, 2, 5, 39, 47, 11205, 11206]) (.seq (.reg [⟨some 20, .bin .eql (.t 13) (.k (.int .i64 1)), none⟩,
    ⟨some 19, .mv (.t 20), none⟩] [0, 2, 4, 5, 13, 19] [0, 2, 5, 39, 47, 11205, 11206])
  (.cond (.t 19) (.reg [⟨some 21, .bslice 1 3 [.str ⟨#[]⟩] [(0, .k (.str ⟨#[]⟩)), (1, .k (.str ⟨#[65]⟩)), (2, .k (.str ⟨#[116, 104, 105, 114, 116, 101, 101, 110, 115, 105, 103, 110, 115]⟩))], none⟩,
    ⟨some 22, .mv (.t 4), none⟩,
    ⟨some 23, .bin .rem (.t 22) (.k (.int .i64 3)), none⟩,
    ⟨some 24, .iaddr 1 (.t 21) (.t 23), none⟩,
    ⟨some 25, .load false 1 (.t 24), none⟩,
    ⟨some 26, .faddr 1 (.t 5), none⟩,
    ⟨none, .store 1 (.t 26) (.t 25), none⟩] [2, 5] [0, 2, 5, 39, 47, 11205, 11206]) (.seq (.reg [⟨some 28, .bin .eql (.t 13) (.k (.int .i64 2)), none⟩,
    ⟨some 27, .mv (.t 28), none⟩] [0, 2, 4, 5, 13, 27] [0, 2, 5, 39, 47, 11205, 11206])
  (.cond (.t 27) (.reg [⟨some 29, .mv (.t 4), none⟩,
    ⟨some 30, .bin .rem (.t 29) (.k (.int .i64 5)), none⟩,
    ⟨some 31, .faddr 4 (.t 5), none⟩,
    ⟨none, .store 1 (.t 31) (.t 30), none⟩] [2, 5] [0, 2, 5, 39, 47, 11205, 11206]) (.seq (.reg [⟨some 33, .bin .eql (.t 13) (.k (.int .i64 3)), none⟩,
    ⟨some 32, .mv (.t 33), none⟩] [0, 2, 4, 5, 13, 32] [0, 2, 5, 39, 47, 11205, 11206])
  (.cond (.t 32) (.regd [⟨some 34, .faddr 5 (.t 5), none⟩,
    ⟨some 35, .load false 1 (.t 34), none⟩,
    ⟨some 36, .mv (.t 0), none⟩,
    ⟨some 37, .call 237 [.t 36] [0] [], none⟩,
    ⟨some 38, .bslice 4 1 [.int .i64 0, .int .i64 0, .nils 3, .str ⟨#[]⟩] [(0, .t 37)], none⟩,
    ⟨some 39, .app 4 56 (.t 35) (.t 38), none⟩,
    ⟨some 40, .faddr 5 (.t 5), none⟩,
    ⟨none, .store 1 (.t 40) (.t 39), none⟩] [[], [0], [], [2], [2, 3], List.range 5, List.range 6, List.range 7] [2, 5] [0, 2, 5, 39, 47, 11205, 11206]) (.seq (.reg [⟨some 42, .bin .eql (.t 13) (.k (.int .i64 4)), none⟩,
    ⟨some 41, .mv (.t 42), none⟩] [0, 2, 4, 5, 13, 41] [0, 2, 5, 39, 47, 11205, 11206])
  (.cond (.t 41) (.reg [⟨some 43, .faddr 6 (.t 5), none⟩,
    ⟨some 44, .load false 1 (.t 43), none⟩,
    ⟨some 45, .mv (.t 4), none⟩,
    ⟨some 46, .bslice 1 1 [.int .i64 0] [(0, .t 45)], none⟩,
    ⟨some 47, .app 1 8 (.t 44) (.t 46), none⟩,
    ⟨some 48, .faddr 6 (.t 5), none⟩,
    ⟨none, .store 1 (.t 48) (.t 47), none⟩] [2, 5] [0, 2, 5, 39, 47, 11205, 11206]) (.seq (.reg [⟨some 50, .bin .eql (.t 13) (.k (.int .i64 5)), none⟩,
    ⟨some 49, .mv (.t 50), none⟩] [0, 2, 5, 49] [0, 2, 5, 39, 47, 11205, 11206])
  (.cond (.t 49) (.reg [⟨some 51, .mv (.t 0), none⟩,
    ⟨some 52, .call 177 [.t 51] [0] [], none⟩,
    ⟨some 53, .faddr 2 (.t 5), none⟩,
    ⟨none, .store 2 (.t 53) (.t 52), none⟩] [2, 5] [0, 2, 5, 39, 47, 11205, 11206]) (.skip)))))))))))))))
  (.seq (.reg [⟨some 54, .load true 7 (.t 5), none⟩,
    ⟨none, .store 7 (.t 2) (.t 54), none⟩] [2] [0, 2, 39, 47, 11205, 11206])
  (.ret))))))
def spec_l06Any.m : Fn := { np := 1, body := spec_l06Any.b, res := [.cell 2 true 7] }
def spec_l06Any.k (M : Nat → Option Body) : Prop := M 173 = some (.code spec_l06Any.m) ∧ spec_l01Below.k M ∧ spec_l06Box.k M ∧ spec_l03Any.k M ∧ spec_l06Copy.k M ∧ spec_l05Any.k M
end Mx

namespace Mx
open Go
def spec_l08Two.l0 : C := .seq (.seq (.reg [⟨some 14, .mv (.t 5), none⟩,
    ⟨some 15, .mv (.t 0), none⟩,
    ⟨some 16, .call 125 [.t 15, .k (.int .i64 5)] [0] [], none⟩,
    ⟨some 17, .bin .lss (.t 14) (.t 16), none⟩] [0, 2, 3, 4, 5, 17] [0, 2, 3, 4, 13105, 13106, 17905, 17906])
  (.cond (.t 17) (.skip) (.exit 0)))
  (.seq (.block 1 (.regd [⟨some 21, .load true 7 (.t 4), none⟩,
    ⟨some 22, .mv (.t 5), none⟩,
    ⟨some 23, .bin .add (.k (.int .i64 10)) (.t 22), none⟩,
    ⟨some 24, .mv (.t 0), none⟩,
    ⟨some 25, .call 174 [.t 24] [0] [], none⟩,
    ⟨some 26, .build [.int .i64 0, .int .i64 0] [(0, 1, .k (.int .i64 1)), (1, 1, .k (.int .i64 1))], none⟩,
    ⟨some 27, .call 81 [.t 21, .t 23, .k (.int .i64 0), .t 25, .t 26] [] [], none⟩,
    ⟨some 20, .mv (.t 27), none⟩,
    ⟨some 28, .ext 0 (.t 20), none⟩,
    ⟨some 29, .ext 1 (.t 20), none⟩,
    ⟨none, .store 7 (.t 4) (.t 28), none⟩] [[], [], [1], [], [3], [], List.range 6, List.range 7, List.range 8, List.range 8, List.range 9] [0, 2, 3, 4, 5] [0, 2, 3, 4, 13105, 13106, 17905, 17906]))
  (.reg [⟨some 18, .mv (.t 5), none⟩,
    ⟨some 19, .bin .add (.t 18) (.k (.int .i64 1)), none⟩,
    ⟨some 5, .mv (.t 19), none⟩] [0, 2, 3, 4, 5] [0, 2, 3, 4, 13105, 13106, 17905, 17906]))
def spec_l08Two.l1 : C := .seq (.seq (.reg [⟨some 32, .mv (.t 7), none⟩,
    ⟨some 33, .mv (.t 0), none⟩,
    ⟨some 34, .call 125 [.t 33, .k (.int .i64 6)] [0] [], none⟩,
    ⟨some 35, .bin .lss (.t 32) (.t 34), none⟩] [0, 2, 3, 4, 6, 7, 35] [0, 2, 3, 4, 6, 13105, 13106, 17905, 17906])
  (.cond (.t 35) (.skip) (.exit 2)))
  (.seq (.block 3 (.seq (.reg [⟨some 38, .mv (.t 0), none⟩,
    ⟨some 39, .call 232 [.t 38] [0] [], none⟩,
    ⟨some 8, .alloc [.int .i64 0, .int .i64 0], none⟩,
    ⟨none, .store 2 (.t 8) (.t 39), none⟩] [0, 2, 3, 4, 6, 7, 8] [0, 2, 3, 4, 6, 8, 13105, 13106, 17905, 17906])
  (.seq (.reg [⟨some 40, .mv (.t 0), none⟩,
    ⟨some 41, .call 125 [.t 40, .k (.int .i64 4)] [0] [], none⟩] [0, 2, 3, 4, 6, 7, 8, 41] [0, 2, 3, 4, 6, 8, 13105, 13106, 17905, 17906])
  (.block 4 (.seq (.seq (.reg [⟨some 51, .bin .eql (.t 41) (.k (.int .i64 0)), none⟩,
    ⟨some 50, .mv (.t 51), none⟩] [0, 2, 3, 4, 6, 7, 8, 41, 50] [0, 2, 3, 4, 6, 8, 13105, 13106, 17905, 17906])
  (.cond (.t 50) (.skip) (.reg [⟨some 52, .bin .eql (.t 41) (.k (.int .i64 1)), none⟩,
    ⟨some 50, .mv (.t 52), none⟩] [0, 2, 3, 4, 6, 7, 8, 41, 50] [0, 2, 3, 4, 6, 8, 13105, 13106, 17905, 17906])))
  (.cond (.t 50) (.shut [13105, 13106] (.regd [⟨some 54, .load true 7 (.t 6), none⟩,
    ⟨some 55, .mv (.t 7), none⟩,
    ⟨some 56, .bin .add (.k (.int .i64 20)) (.t 55), none⟩,
    ⟨some 57, .mv (.t 0), none⟩,
    ⟨some 58, .call 125 [.t 57, .k (.int .i64 8)] [0] [], none⟩,
    ⟨some 59, .mv (.t 0), none⟩,
    ⟨some 60, .call 174 [.t 59] [0] [], none⟩,
    ⟨some 61, .load true 2 (.t 8), none⟩,
    ⟨some 62, .call 81 [.t 54, .t 56, .t 58, .t 60, .t 61] [] [(5, 13105), (6, 13106)], none⟩,
    ⟨some 53, .mv (.t 62), none⟩,
    ⟨some 63, .ext 0 (.t 53), none⟩,
    ⟨some 64, .ext 1 (.t 53), none⟩,
    ⟨none, .store 7 (.t 6) (.t 63), none⟩] [[], [], [1], [], [3], [], [3, 4, 5], [], List.range 8, List.range 9, List.range 10, List.range 10, List.range 11] [0, 2, 3, 4, 6, 7] [0, 2, 3, 4, 6, 13105, 13106, 17905, 17906])) (.seq (.reg [⟨some 66, .bin .eql (.t 41) (.k (.int .i64 2)), none⟩,
    ⟨some 65, .mv (.t 66), none⟩] [0, 2, 3, 4, 6, 7, 8, 65] [0, 2, 3, 4, 6, 8, 13105, 13106, 17905, 17906])
  (.cond (.t 65) (.shut [13105, 13106] (.regd [⟨some 68, .load true 7 (.t 6), none⟩,
    ⟨some 69, .mv (.t 0), none⟩,
    ⟨some 70, .call 125 [.t 69, .k (.int .i64 5)] [0] [], none⟩,
    ⟨some 71, .bin .add (.k (.int .i64 10)) (.t 70), none⟩,
    ⟨some 72, .mv (.t 0), none⟩,
    ⟨some 73, .call 125 [.t 72, .k (.int .i64 8)] [0] [], none⟩,
    ⟨some 74, .load true 2 (.t 8), none⟩,
    ⟨some 75, .call 84 [.t 68, .t 71, .t 73, .t 74] [] [(5, 13105), (6, 13106)], none⟩,
    ⟨some 67, .mv (.t 75), none⟩,
    ⟨some 76, .ext 0 (.t 67), none⟩,
    ⟨some 77, .ext 1 (.t 67), none⟩,
    ⟨none, .store 7 (.t 6) (.t 76), none⟩] [[], [], [1], [1, 2], [], [1, 2, 4], [], List.range 7, List.range 8, List.range 9, List.range 9, List.range 10] [0, 2, 3, 4, 6, 7] [0, 2, 3, 4, 6, 13105, 13106, 17905, 17906])) (.shut [13105, 13106] (.regd [⟨some 43, .load true 7 (.t 6), none⟩,
    ⟨some 44, .mv (.t 0), none⟩,
    ⟨some 45, .call 125 [.t 44, .k (.int .i64 5)] [0] [], none⟩,
    ⟨some 46, .bin .add (.k (.int .i64 10)) (.t 45), none⟩,
    ⟨some 47, .call 86 [.t 43, .t 46] [] [(5, 13105), (6, 13106)], none⟩,
    ⟨some 42, .mv (.t 47), none⟩,
    ⟨some 48, .ext 0 (.t 42), none⟩,
    ⟨some 49, .ext 1 (.t 42), none⟩,
    ⟨none, .store 7 (.t 6) (.t 48), none⟩] [[], [], [1], [1, 2], List.range 4, List.range 5, List.range 6, List.range 6, List.range 7] [0, 2, 3, 4, 6, 7] [0, 2, 3, 4, 6, 13105, 13106, 17905, 17906]))))))))))
  (.reg [⟨some 36, .mv (.t 7), none⟩,
    ⟨some 37, .bin .add (.t 36) (.k (.int .i64 1)), none⟩,
    ⟨some 7, .mv (.t 37), none⟩] [0, 2, 3, 4, 6, 7] [0, 2, 3, 4, 6, 13105, 13106, 17905, 17906]))
def spec_l08Two.l2 : C := .seq (.seq (.reg [⟨some 80, .mv (.t 10), none⟩,
    ⟨some 81, .mv (.t 0), none⟩,
    ⟨some 82, .call 125 [.t 81, .k (.int .i64 6)] [0] [], none⟩,
    ⟨some 83, .bin .lss (.t 80) (.t 82), none⟩] [0, 2, 3, 6, 9, 10, 83] [0, 2, 3, 6, 9, 13105, 13106, 17905, 17906])
  (.cond (.t 83) (.skip) (.exit 5)))
  (.seq (.block 6 (.seq (.reg [⟨some 86, .mv (.t 0), none⟩,
    ⟨some 87, .call 232 [.t 86] [0] [], none⟩,
    ⟨some 11, .alloc [.int .i64 0, .int .i64 0], none⟩,
    ⟨none, .store 2 (.t 11) (.t 87), none⟩] [0, 2, 3, 6, 9, 10, 11] [0, 2, 3, 6, 9, 11, 13105, 13106, 17905, 17906])
  (.seq (.reg [⟨some 88, .mv (.t 0), none⟩,
    ⟨some 89, .call 125 [.t 88, .k (.int .i64 4)] [0] [], none⟩] [0, 2, 3, 6, 9, 10, 11, 89] [0, 2, 3, 6, 9, 11, 13105, 13106, 17905, 17906])
  (.block 7 (.seq (.seq (.reg [⟨some 99, .bin .eql (.t 89) (.k (.int .i64 0)), none⟩,
    ⟨some 98, .mv (.t 99), none⟩] [0, 2, 3, 6, 9, 10, 11, 89, 98] [0, 2, 3, 6, 9, 11, 13105, 13106, 17905, 17906])
  (.cond (.t 98) (.skip) (.reg [⟨some 100, .bin .eql (.t 89) (.k (.int .i64 1)), none⟩,
    ⟨some 98, .mv (.t 100), none⟩] [0, 2, 3, 6, 9, 10, 11, 89, 98] [0, 2, 3, 6, 9, 11, 13105, 13106, 17905, 17906])))
  (.cond (.t 98) (.shut [17905, 17906] (.regd [⟨some 102, .load true 7 (.t 9), none⟩,
    ⟨some 103, .mv (.t 10), none⟩,
    ⟨some 104, .bin .add (.k (.int .i64 30)) (.t 103), none⟩,
    ⟨some 105, .mv (.t 0), none⟩,
    ⟨some 106, .call 125 [.t 105, .k (.int .i64 8)] [0] [], none⟩,
    ⟨some 107, .mv (.t 0), none⟩,
    ⟨some 108, .call 174 [.t 107] [0] [], none⟩,
    ⟨some 109, .load true 2 (.t 11), none⟩,
    ⟨some 110, .call 81 [.t 102, .t 104, .t 106, .t 108, .t 109] [] [(5, 17905), (6, 17906)], none⟩,
    ⟨some 101, .mv (.t 110), none⟩,
    ⟨some 111, .ext 0 (.t 101), none⟩,
    ⟨some 112, .ext 1 (.t 101), none⟩,
    ⟨none, .store 7 (.t 9) (.t 111), none⟩] [[], [], [1], [], [3], [], [3, 4, 5], [], List.range 8, List.range 9, List.range 10, List.range 10, List.range 11] [0, 2, 3, 6, 9, 10] [0, 2, 3, 6, 9, 13105, 13106, 17905, 17906])) (.seq (.reg [⟨some 114, .bin .eql (.t 89) (.k (.int .i64 2)), none⟩,
    ⟨some 113, .mv (.t 114), none⟩] [0, 2, 3, 6, 9, 10, 11, 113] [0, 2, 3, 6, 9, 11, 13105, 13106, 17905, 17906])
  (.cond (.t 113) (.shut [17905, 17906] (.regd [⟨some 116, .load true 7 (.t 9), none⟩,
    ⟨some 117, .mv (.t 0), none⟩,
    ⟨some 118, .call 125 [.t 117, .k (.int .i64 5)] [0] [], none⟩,
    ⟨some 119, .bin .add (.k (.int .i64 10)) (.t 118), none⟩,
    ⟨some 120, .mv (.t 0), none⟩,
    ⟨some 121, .call 125 [.t 120, .k (.int .i64 8)] [0] [], none⟩,
    ⟨some 122, .load true 2 (.t 11), none⟩,
    ⟨some 123, .call 84 [.t 116, .t 119, .t 121, .t 122] [] [(5, 17905), (6, 17906)], none⟩,
    ⟨some 115, .mv (.t 123), none⟩,
    ⟨some 124, .ext 0 (.t 115), none⟩,
    ⟨some 125, .ext 1 (.t 115), none⟩,
    ⟨none, .store 7 (.t 9) (.t 124), none⟩] [[], [], [1], [1, 2], [], [1, 2, 4], [], List.range 7, List.range 8, List.range 9, List.range 9, List.range 10] [0, 2, 3, 6, 9, 10] [0, 2, 3, 6, 9, 13105, 13106, 17905, 17906])) (.shut [17905, 17906] (.regd [⟨some 91, .load true 7 (.t 9), none⟩,
    ⟨some 92, .mv (.t 0), none⟩,
    ⟨some 93, .call 125 [.t 92, .k (.int .i64 5)] [0] [], none⟩,
    ⟨some 94, .bin .add (.k (.int .i64 10)) (.t 93), none⟩,
    ⟨some 95, .call 86 [.t 91, .t 94] [] [(5, 17905), (6, 17906)], none⟩,
    ⟨some 90, .mv (.t 95), none⟩,
    ⟨some 96, .ext 0 (.t 90), none⟩,
    ⟨some 97, .ext 1 (.t 90), none⟩,
    ⟨none, .store 7 (.t 9) (.t 96), none⟩] [[], [], [1], [1, 2], List.range 4, List.range 5, List.range 6, List.range 6, List.range 7] [0, 2, 3, 6, 9, 10] [0, 2, 3, 6, 9, 13105, 13106, 17905, 17906]))))))))))
  (.reg [⟨some 84, .mv (.t 10), none⟩,
    ⟨some 85, .bin .add (.t 84) (.k (.int .i64 1)), none⟩,
    ⟨some 10, .mv (.t 85), none⟩] [0, 2, 3, 6, 9, 10] [0, 2, 3, 6, 9, 13105, 13106, 17905, 17906]))
def spec_l08Two.b : C := .seq (.reg [⟨some 2, .alloc [.int .i64 0, .str ⟨#[]⟩, .int .i64 0, .int .i64 0, .int .i64 0, .nils 4, .nils 1], none⟩,
    ⟨some 3, .alloc [.int .i64 0, .str ⟨#[]⟩, .int .i64 0, .int .i64 0, .int .i64 0, .nils 4, .nils 1], none⟩] [0, 2, 3] [0, 2, 3, 13105, 13106, 17905, 17906])
  (.seq (.reg [⟨some 12, .build [.int .i64 0, .int .i64 0] [(0, 1, .k (.int .i64 1)), (1, 1, .k (.int .i64 1))], none⟩,
    ⟨some 13, .build [.int .i64 0, .str ⟨#[]⟩, .int .i64 0, .int .i64 0, .int .i64 0, .nils 4, .nils 1] [(0, 1, .k (.int .i64 7)), (1, 1, .k (.str ⟨#[105, 110, 98, 111, 120]⟩)), (2, 2, .t 12), (4, 1, .k (.int .i64 1))], none⟩,
    ⟨some 4, .alloc [.int .i64 0, .str ⟨#[]⟩, .int .i64 0, .int .i64 0, .int .i64 0, .nils 4, .nils 1], none⟩,
    ⟨none, .store 7 (.t 4) (.t 13), none⟩] [0, 2, 3, 4] [0, 2, 3, 4, 13105, 13106, 17905, 17906])
  (.seq (.seq (.reg [⟨some 5, .mv (.k (.int .i64 0)), none⟩] [0, 2, 3, 4, 5] [0, 2, 3, 4, 13105, 13106, 17905, 17906])
  (.block 0 (.loop spec_l08Two.l0)))
  (.seq (.reg [⟨some 30, .load true 7 (.t 4), none⟩,
    ⟨some 31, .call 180 [.t 30] [] [(5, 13105), (6, 13106)], none⟩,
    ⟨some 6, .alloc [.int .i64 0, .str ⟨#[]⟩, .int .i64 0, .int .i64 0, .int .i64 0, .nils 4, .nils 1], none⟩,
    ⟨none, .store 7 (.t 6) (.t 31), none⟩] [0, 2, 3, 4, 6] [0, 2, 3, 4, 6, 13105, 13106, 17905, 17906])
  (.seq (.seq (.reg [⟨some 7, .mv (.k (.int .i64 0)), none⟩] [0, 2, 3, 4, 6, 7] [0, 2, 3, 4, 6, 13105, 13106, 17905, 17906])
  (.block 2 (.loop spec_l08Two.l1)))
  (.seq (.reg [⟨some 78, .load true 7 (.t 4), none⟩,
    ⟨some 79, .call 180 [.t 78] [] [(5, 17905), (6, 17906)], none⟩,
    ⟨some 9, .alloc [.int .i64 0, .str ⟨#[]⟩, .int .i64 0, .int .i64 0, .int .i64 0, .nils 4, .nils 1], none⟩,
    ⟨none, .store 7 (.t 9) (.t 79), none⟩] [0, 2, 3, 6, 9] [0, 2, 3, 6, 9, 13105, 13106, 17905, 17906])
  (.seq (.seq (.reg [⟨some 10, .mv (.k (.int .i64 0)), none⟩] [0, 2, 3, 6, 9, 10] [0, 2, 3, 6, 9, 13105, 13106, 17905, 17906])
  (.block 5 (.loop spec_l08Two.l2)))
  (.seq (.seq (.reg [⟨some 126, .mv (.t 0), none⟩,
    ⟨some 127, .call 175 [.t 126, .k (.int .i64 3)] [0] [], none⟩] [0, 2, 3, 6, 9, 127] [0, 2, 3, 6, 9, 13105, 13106, 17905, 17906])
  (.cond (.t 127) (.seq (.reg [⟨some 128, .faddr 1 (.t 6), none⟩,
    ⟨none, .store 1 (.t 128) (.k (.str ⟨#[119, 111, 114, 107]⟩)), none⟩] [0, 2, 3, 6, 9] [0, 2, 3, 6, 9, 13105, 13106, 17905, 17906])
  (.reg [⟨some 129, .mv (.t 0), none⟩,
    ⟨some 130, .call 232 [.t 129] [0] [], none⟩,
    ⟨some 131, .faddr 2 (.t 6), none⟩,
    ⟨none, .store 2 (.t 131) (.t 130), none⟩] [0, 2, 3, 6, 9] [0, 2, 3, 6, 9, 13105, 13106, 17905, 17906])) (.skip)))
  (.seq (.seq (.reg [⟨some 132, .mv (.t 0), none⟩,
    ⟨some 133, .call 175 [.t 132, .k (.int .i64 3)] [0] [], none⟩] [0, 2, 3, 6, 9, 133] [0, 2, 3, 6, 9, 13105, 13106, 17905, 17906])
  (.cond (.t 133) (.seq (.reg [⟨some 134, .faddr 1 (.t 9), none⟩,
    ⟨none, .store 1 (.t 134) (.k (.str ⟨#[111, 108, 100]⟩)), none⟩] [0, 2, 3, 6, 9] [0, 2, 3, 6, 9, 13105, 13106, 17905, 17906])
  (.reg [⟨some 135, .mv (.t 0), none⟩,
    ⟨some 136, .call 232 [.t 135] [0] [], none⟩,
    ⟨some 137, .faddr 2 (.t 9), none⟩,
    ⟨none, .store 2 (.t 137) (.t 136), none⟩] [2, 3, 6, 9] [0, 2, 3, 6, 9, 13105, 13106, 17905, 17906])) (.skip)))
  (.seq (.regd [⟨some 138, .load true 7 (.t 6), none⟩,
    ⟨some 139, .load true 7 (.t 9), none⟩,
    ⟨none, .store 7 (.t 2) (.t 138), none⟩,
    ⟨none, .store 7 (.t 3) (.t 139), none⟩] [[], [], [0], [0, 1, 2]] [2, 3] [0, 2, 3, 13105, 13106, 17905, 17906])
  (.ret))))))))))
def spec_l08Two.m : Fn := { np := 1, body := spec_l08Two.b, res := [.cell 2 true 7, .cell 3 true 7] }
def spec_l08Two.k (M : Nat → Option Body) : Prop := M 436 = some (.code spec_l08Two.m) ∧ spec_AddMail.k M ∧ spec_FlagMail.k M ∧ spec_TakeOut.k M ∧ spec_l01Below.k M ∧ spec_l05Text.k M ∧ spec_l01Once.k M ∧ spec_l06Copy.k M ∧ spec_l03Stamp.k M
def spec_DrawTwoBoxes.b : C := .seq (.reg [⟨some 2, .alloc [.int .i64 0, .str ⟨#[]⟩, .int .i64 0, .int .i64 0, .int .i64 0, .nils 4, .nils 1], none⟩,
    ⟨some 3, .alloc [.int .i64 0, .str ⟨#[]⟩, .int .i64 0, .int .i64 0, .int .i64 0, .nils 4, .nils 1], none⟩] [0, 2, 3] [2, 3, 10605, 10606, 10612, 10613])
  (.seq (.reg [⟨some 4, .mv (.t 0), none⟩,
    ⟨some 5, .call 124 [.t 4] [] [(0, 10500)], none⟩,
    ⟨some 6, .call 436 [.t 5] [0] [(5, 10605), (6, 10606), (12, 10612), (13, 10613)], none⟩,
    ⟨some 7, .ext 0 (.t 6), none⟩,
    ⟨some 8, .ext 1 (.t 6), none⟩,
    ⟨none, .store 7 (.t 2) (.t 7), none⟩,
    ⟨none, .store 7 (.t 3) (.t 8), none⟩] [2, 3] [2, 3, 10605, 10606, 10612, 10613])
  (.ret))
def spec_DrawTwoBoxes.m : Fn := { np := 1, body := spec_DrawTwoBoxes.b, res := [.cell 2 true 7, .cell 3 true 7] }
def spec_DrawTwoBoxes.k (M : Nat → Option Body) : Prop := M 400 = some (.code spec_DrawTwoBoxes.m) ∧ spec_l01New.k M ∧ spec_l08Two.k M
def spec_l08Pair.b : C := .seq (.reg [⟨some 2, .alloc [.int .i64 0, .str ⟨#[]⟩, .int .i64 0, .int .i64 0, .int .i64 0, .nils 4, .nils 1], none⟩,
    ⟨some 3, .alloc [.int .i64 0, .str ⟨#[]⟩, .int .i64 0, .int .i64 0, .int .i64 0, .nils 4, .nils 1], none⟩] [0, 2, 3] [2, 3, 11405, 11406, 11705, 11706, 11905, 11906, 11912, 11913])
  (.seq (.reg [⟨some 7, .mv (.t 0), none⟩,
    ⟨some 8, .call 124 [.t 7] [] [(0, 10800)], none⟩,
    ⟨some 4, .mv (.t 8), none⟩] [2, 3, 4] [2, 3, 10800, 11405, 11406, 11705, 11706, 11905, 11906, 11912, 11913])
  (.seq (.reg [⟨some 9, .mv (.t 4), none⟩,
    ⟨some 10, .call 125 [.t 9, .k (.int .i64 6)] [0] [], none⟩,
    ⟨some 5, .mv (.t 10), none⟩] [2, 3, 4, 5] [2, 3, 10800, 11405, 11406, 11705, 11706, 11905, 11906, 11912, 11913])
  (.seq (.seq (.reg [⟨some 11, .mv (.t 5), none⟩,
    ⟨some 12, .bin .eql (.t 11) (.k (.int .i64 0)), none⟩] [2, 3, 4, 12] [2, 3, 10800, 11405, 11406, 11705, 11706, 11905, 11906, 11912, 11913])
  (.cond (.t 12) (.seq (.reg [⟨some 13, .mv (.t 4), none⟩,
    ⟨some 14, .call 173 [.t 13] [0] [(5, 11405), (6, 11406)], none⟩,
    ⟨some 6, .alloc [.int .i64 0, .str ⟨#[]⟩, .int .i64 0, .int .i64 0, .int .i64 0, .nils 4, .nils 1], none⟩,
    ⟨none, .store 7 (.t 6) (.t 14), none⟩] [2, 3, 4, 6] [2, 3, 6, 10800, 11405, 11406, 11705, 11706, 11905, 11906, 11912, 11913])
  (.seq (.regd [⟨some 15, .load true 7 (.t 6), none⟩,
    ⟨some 16, .mv (.t 4), none⟩,
    ⟨some 17, .call 173 [.t 16] [0] [(5, 11705), (6, 11706)], none⟩,
    ⟨none, .store 7 (.t 2) (.t 15), none⟩,
    ⟨none, .store 7 (.t 3) (.t 17), none⟩] [[], [], [1], [0, 1, 2], List.range 4] [2, 3] [2, 3, 11405, 11406, 11705, 11706, 11905, 11906, 11912, 11913])
  (.ret))) (.skip)))
  (.seq (.reg [⟨some 18, .mv (.t 4), none⟩,
    ⟨some 19, .call 436 [.t 18] [0] [(5, 11905), (6, 11906), (12, 11912), (13, 11913)], none⟩,
    ⟨some 20, .ext 0 (.t 19), none⟩,
    ⟨some 21, .ext 1 (.t 19), none⟩,
    ⟨none, .store 7 (.t 2) (.t 20), none⟩,
    ⟨none, .store 7 (.t 3) (.t 21), none⟩] [2, 3] [2, 3, 11405, 11406, 11705, 11706, 11905, 11906, 11912, 11913])
  (.ret)))))
def spec_l08Pair.m : Fn := { np := 1, body := spec_l08Pair.b, res := [.cell 2 true 7, .cell 3 true 7] }
def spec_l08Pair.k (M : Nat → Option Body) : Prop := M 438 = some (.code spec_l08Pair.m) ∧ spec_l01New.k M ∧ spec_l01Below.k M ∧ spec_l06Any.k M ∧ spec_l08Two.k M
def spec_DrawKeepsUid.b : C := .seq (.reg [⟨some 2, .alloc [.int .i64 0, .str ⟨#[]⟩, .int .i64 0, .int .i64 0, .int .i64 0, .nils 4, .nils 1], none⟩,
    ⟨some 3, .alloc [.int .i64 0, .str ⟨#[]⟩, .int .i64 0, .int .i64 0, .int .i64 0, .nils 4, .nils 1], none⟩,
    ⟨some 4, .mv (.k (.int .i64 0)), none⟩] [0, 2, 3] [2, 3, 11605, 11606, 11612, 11613])
  (.seq (.reg [⟨some 9, .mv (.t 0), none⟩,
    ⟨some 10, .call 124 [.t 9] [] [(0, 11000)], none⟩,
    ⟨some 5, .mv (.t 10), none⟩] [0, 2, 3, 5] [2, 3, 11000, 11605, 11606, 11612, 11613])
  (.seq (.reg [⟨some 11, .mv (.t 5), none⟩,
    ⟨some 12, .bslf 1 8 [.int .i64 0] [(0, .k (.int .i64 10)), (1, .k (.int .i64 11)), (2, .k (.int .i64 12)), (3, .k (.int .i64 20)), (4, .k (.int .i64 21)), (5, .k (.int .i64 30)), (6, .k (.int .i64 31)), (7, .k (.int .i64 99))], none⟩,
    ⟨some 13, .call 179 [.t 11, .t 12] [0] [], none⟩,
    ⟨some 6, .mv (.t 13), none⟩] [0, 2, 3, 6] [2, 3, 11605, 11606, 11612, 11613])
  (.seq (.reg [⟨some 15, .mv (.t 0), none⟩,
    ⟨some 16, .call 438 [.t 15] [] [(5, 11605), (6, 11606), (12, 11612), (13, 11613)], none⟩,
    ⟨some 14, .mv (.t 16), none⟩,
    ⟨some 17, .ext 0 (.t 14), none⟩,
    ⟨some 18, .ext 1 (.t 14), none⟩,
    ⟨some 7, .alloc [.int .i64 0, .str ⟨#[]⟩, .int .i64 0, .int .i64 0, .int .i64 0, .nils 4, .nils 1], none⟩,
    ⟨some 8, .alloc [.int .i64 0, .str ⟨#[]⟩, .int .i64 0, .int .i64 0, .int .i64 0, .nils 4, .nils 1], none⟩,
    ⟨none, .store 7 (.t 7) (.t 17), none⟩,
    ⟨none, .store 7 (.t 8) (.t 18), none⟩] [2, 3, 6, 7, 8] [2, 3, 7, 8, 11605, 11606, 11612, 11613])
  (.seq (.regd [⟨some 19, .load true 7 (.t 7), none⟩,
    ⟨some 20, .load true 7 (.t 8), none⟩,
    ⟨some 21, .mv (.t 6), none⟩,
    ⟨none, .store 7 (.t 2) (.t 19), none⟩,
    ⟨none, .store 7 (.t 3) (.t 20), none⟩,
    ⟨some 4, .mv (.t 21), none⟩] [[], [], [], [0], [0, 1, 3], List.range 5] [2, 3, 4] [2, 3, 11605, 11606, 11612, 11613])
  (.ret)))))
def spec_DrawKeepsUid.m : Fn := { np := 1, body := spec_DrawKeepsUid.b, res := [.cell 2 true 7, .cell 3 true 7, .tmp 4] }
def spec_DrawKeepsUid.k (M : Nat → Option Body) : Prop := M 414 = some (.code spec_DrawKeepsUid.m) ∧ spec_l01New.k M ∧ spec_l01PickInt.k M ∧ spec_l08Pair.k M
def spec_DrawJoinGone.l0 : C := .seq (.seq (.reg [⟨some 12, .mv (.t 7), none⟩,
    ⟨some 13, .mv (.t 4), none⟩,
    ⟨some 14, .call 125 [.t 13, .k (.int .i64 6)] [0] [], none⟩,
    ⟨some 15, .bin .lss (.t 12) (.t 14), none⟩] [4, 5, 6, 7, 15] [10, 11, 22, 27, 10900])
  (.cond (.t 15) (.skip) (.exit 0)))
  (.seq (.block 1 (.seq (.reg [⟨some 18, .mv (.t 5), none⟩,
    ⟨some 19, .mv (.t 4), none⟩,
    ⟨some 20, .call 125 [.t 19, .k (.int .i64 9)] [0] [], none⟩,
    ⟨some 21, .bslice 1 1 [.int .i64 0] [(0, .t 20)], none⟩,
    ⟨some 22, .app 1 8 (.t 18) (.t 21), none⟩,
    ⟨some 5, .mv (.t 22), none⟩] [4, 5, 6, 7] [10, 11, 22, 27, 10900])
  (.reg [⟨some 23, .mv (.t 6), none⟩,
    ⟨some 24, .mv (.t 4), none⟩,
    ⟨some 25, .call 125 [.t 24, .k (.int .i64 9)] [0] [], none⟩,
    ⟨some 26, .bslice 1 1 [.int .i64 0] [(0, .t 25)], none⟩,
    ⟨some 27, .app 1 8 (.t 23) (.t 26), none⟩,
    ⟨some 6, .mv (.t 27), none⟩] [4, 5, 6, 7] [10, 11, 22, 27, 10900])))
  (.reg [⟨some 16, .mv (.t 7), none⟩,
    ⟨some 17, .bin .add (.t 16) (.k (.int .i64 1)), none⟩,
    ⟨some 7, .mv (.t 17), none⟩] [4, 5, 6, 7] [10, 11, 22, 27, 10900]))
def spec_DrawJoinGone.b : C := .seq (.reg [⟨some 2, .nil 1, none⟩,
    ⟨some 3, .nil 1, none⟩] [0] [])
  (.seq (.reg [⟨some 8, .mv (.t 0), none⟩,
    ⟨some 9, .call 124 [.t 8] [] [(0, 10900)], none⟩,
    ⟨some 4, .mv (.t 9), none⟩] [4] [10900])
  (.seq (.reg [⟨some 10, .bslice 1 0 [.int .i64 0] [], none⟩,
    ⟨some 5, .mv (.t 10), none⟩] [4, 5] [10, 22, 10900])
  (.seq (.reg [⟨some 11, .bslice 1 0 [.int .i64 0] [], none⟩,
    ⟨some 6, .mv (.t 11), none⟩] [4, 5, 6] [10, 11, 22, 27, 10900])
  (.seq (.seq (.reg [⟨some 7, .mv (.k (.int .i64 0)), none⟩] [4, 5, 6, 7] [10, 11, 22, 27, 10900])
  (.block 0 (.loop spec_DrawJoinGone.l0)))
  (.seq (.reg [⟨some 28, .mv (.t 5), none⟩,
    ⟨some 29, .mv (.t 6), none⟩,
    ⟨some 2, .mv (.t 28), none⟩,
    ⟨some 3, .mv (.t 29), none⟩] [2, 3] [2, 3, 10, 11, 22, 27])
  (.ret))))))
def spec_DrawJoinGone.m : Fn := { np := 1, body := spec_DrawJoinGone.b, res := [.tmp 2, .tmp 3] }
def spec_DrawJoinGone.k (M : Nat → Option Body) : Prop := M 403 = some (.code spec_DrawJoinGone.m) ∧ spec_l01New.k M ∧ spec_l01Below.k M
def spec_DrawJoinBox.b : C := .seq (.reg [⟨some 2, .alloc [.int .i64 0, .str ⟨#[]⟩, .int .i64 0, .int .i64 0, .int .i64 0, .nils 4, .nils 1], none⟩,
    ⟨some 3, .alloc [.int .i64 0, .str ⟨#[]⟩, .int .i64 0, .int .i64 0, .int .i64 0, .nils 4, .nils 1], none⟩] [0, 2, 3] [2, 3, 10505, 10506, 10512, 10513])
  (.seq (.reg [⟨some 4, .mv (.t 0), none⟩,
    ⟨some 5, .call 438 [.t 4] [] [(5, 10505), (6, 10506), (12, 10512), (13, 10513)], none⟩,
    ⟨some 6, .ext 0 (.t 5), none⟩,
    ⟨some 7, .ext 1 (.t 5), none⟩,
    ⟨none, .store 7 (.t 2) (.t 6), none⟩,
    ⟨none, .store 7 (.t 3) (.t 7), none⟩] [2, 3] [2, 3, 10505, 10506, 10512, 10513])
  (.ret))
def spec_DrawJoinBox.m : Fn := { np := 1, body := spec_DrawJoinBox.b, res := [.cell 2 true 7, .cell 3 true 7] }
def spec_DrawJoinBox.k (M : Nat → Option Body) : Prop := M 404 = some (.code spec_DrawJoinBox.m) ∧ spec_l08Pair.k M
end Mx

namespace Mx
open Go
def impl_JoinReg.b : C := .seq (.reg [⟨some 2, .box (.t 0), none⟩,
    ⟨some 3, .box (.t 1), none⟩,
    ⟨some 4, .alloc [.int .i64 0, .int .i64 0, .int .i64 0], none⟩] [2, 3, 4] [2, 3, 4])
  (.seq (.seq (.reg [⟨some 5, .faddr 1 (.t 3), none⟩,
    ⟨some 6, .load true 2 (.t 5), none⟩,
    ⟨some 7, .faddr 1 (.t 2), none⟩,
    ⟨some 8, .load true 2 (.t 7), none⟩,
    ⟨some 9, .call 275 [.t 6, .t 8] [] [], none⟩,
    ⟨some 10, .mv (.t 9), none⟩,
    ⟨some 11, .faddr 1 (.t 2), some (10, false)⟩,
    ⟨some 12, .load true 2 (.t 11), some (10, false)⟩,
    ⟨some 13, .faddr 1 (.t 3), some (10, false)⟩,
    ⟨some 14, .load true 2 (.t 13), some (10, false)⟩,
    ⟨some 15, .call 275 [.t 12, .t 14] [] [], some (10, false)⟩,
    ⟨some 16, .not (.t 15), some (10, false)⟩,
    ⟨some 17, .mv (.t 16), some (10, false)⟩,
    ⟨some 18, .faddr 0 (.t 3), some (17, true)⟩,
    ⟨some 19, .load false 1 (.t 18), some (17, true)⟩,
    ⟨some 20, .faddr 0 (.t 2), some (17, true)⟩,
    ⟨some 21, .load false 1 (.t 20), some (17, true)⟩,
    ⟨some 22, .bin .gtr (.t 19) (.t 21), some (17, true)⟩,
    ⟨some 23, .pick (.t 17) (.t 22) (.k (.bool false)), some (10, false)⟩,
    ⟨some 24, .pick (.t 10) (.k (.bool true)) (.t 23), none⟩] [2, 3, 4, 24] [2, 3, 4])
  (.cond (.t 24) (.seq (.reg [⟨some 25, .load true 3 (.t 3), none⟩,
    ⟨none, .store 3 (.t 4) (.t 25), none⟩] [4] [4])
  (.ret)) (.skip)))
  (.seq (.reg [⟨some 26, .load true 3 (.t 2), none⟩,
    ⟨none, .store 3 (.t 4) (.t 26), none⟩] [4] [4])
  (.ret)))
def impl_JoinReg.m : Fn := { np := 2, body := impl_JoinReg.b, res := [.cell 4 true 3] }
def impl_JoinReg.k (M : Nat → Option Body) : Prop := M 485 = some (.code impl_JoinReg.m) ∧ impl_Later.k M
def impl_JoinFlags.l0 : C := .seq (.seq (.reg [⟨some 8, .mv (.t 6), none⟩,
    ⟨some 9, .mv (.t 0), none⟩,
    ⟨some 10, .len (.t 9), none⟩,
    ⟨some 11, .bin .lss (.t 8) (.t 10), none⟩,
    ⟨some 12, .mv (.t 11), none⟩,
    ⟨some 13, .mv (.t 6), some (12, true)⟩,
    ⟨some 14, .mv (.t 1), some (12, true)⟩,
    ⟨some 15, .len (.t 14), some (12, true)⟩,
    ⟨some 16, .bin .lss (.t 13) (.t 15), some (12, true)⟩,
    ⟨some 17, .pick (.t 12) (.t 16) (.k (.bool false)), none⟩] [0, 1, 5, 6, 17] [7, 31])
  (.cond (.t 17) (.skip) (.exit 0)))
  (.seq (.block 1 (.regd [⟨some 20, .mv (.t 5), none⟩,
    ⟨some 21, .mv (.t 0), none⟩,
    ⟨some 22, .mv (.t 6), none⟩,
    ⟨some 23, .iaddr 3 (.t 21) (.t 22), none⟩,
    ⟨some 24, .load true 3 (.t 23), none⟩,
    ⟨some 25, .mv (.t 1), none⟩,
    ⟨some 26, .mv (.t 6), none⟩,
    ⟨some 27, .iaddr 3 (.t 25) (.t 26), none⟩,
    ⟨some 28, .load true 3 (.t 27), none⟩,
    ⟨some 29, .call 485 [.t 24, .t 28] [] [], none⟩,
    ⟨some 30, .bslice 3 1 [.int .i64 0, .int .i64 0, .int .i64 0] [(0, .t 29)], none⟩,
    ⟨some 31, .app 3 24 (.t 20) (.t 30), none⟩,
    ⟨some 5, .mv (.t 31), none⟩] [[], [], [], [1, 2], [1, 2, 3], [], [], [5, 6], [5, 6, 7], [1, 2, 3, 4, 5, 6, 7, 8], [1, 2, 3, 4, 5, 6, 7, 8, 9], List.range 11, List.range 12] [0, 1, 5, 6] [7, 31]))
  (.reg [⟨some 18, .mv (.t 6), none⟩,
    ⟨some 19, .bin .add (.t 18) (.k (.int .i64 1)), none⟩,
    ⟨some 6, .mv (.t 19), none⟩] [0, 1, 5, 6] [7, 31]))
def impl_JoinFlags.b : C := .seq (.reg [⟨some 4, .nil 3, none⟩] [0, 1] [])
  (.seq (.reg [⟨some 7, .bslice 3 0 [.int .i64 0, .int .i64 0, .int .i64 0] [], none⟩,
    ⟨some 5, .mv (.t 7), none⟩] [0, 1, 5] [7, 31])
  (.seq (.seq (.reg [⟨some 6, .mv (.k (.int .i64 0)), none⟩] [0, 1, 5, 6] [7, 31])
  (.block 0 (.loop impl_JoinFlags.l0)))
  (.seq (.reg [⟨some 32, .mv (.t 5), none⟩,
    ⟨some 4, .mv (.t 32), none⟩] [4] [4, 7, 31])
  (.ret))))
def impl_JoinFlags.m : Fn := { np := 2, body := impl_JoinFlags.b, res := [.tmp 4] }
def impl_JoinFlags.k (M : Nat → Option Body) : Prop := M 470 = some (.code impl_JoinFlags.m) ∧ impl_JoinReg.k M
def impl_JoinMail.b : C := .seq (.reg [⟨some 2, .box (.t 0), none⟩,
    ⟨some 3, .box (.t 1), none⟩,
    ⟨some 4, .alloc [.int .i64 0, .int .i64 0, .nils 3, .str ⟨#[]⟩], none⟩] [2, 3, 4] [2, 3, 4, 11102, 12300])
  (.seq (.seq (.reg [⟨some 5, .faddr 0 (.t 2), none⟩,
    ⟨some 6, .load false 1 (.t 5), none⟩,
    ⟨some 7, .faddr 0 (.t 3), none⟩,
    ⟨some 8, .load false 1 (.t 7), none⟩,
    ⟨some 9, .bin .neq (.t 6) (.t 8), none⟩] [2, 3, 4, 9] [2, 3, 4, 11102, 12300])
  (.cond (.t 9) (.seq (.reg [⟨some 10, .load true 4 (.t 2), none⟩,
    ⟨some 11, .call 233 [.t 10] [] [(2, 11102)], none⟩,
    ⟨none, .store 4 (.t 4) (.t 11), none⟩] [4] [4, 11102, 12300])
  (.ret)) (.skip)))
  (.seq (.regd [⟨some 12, .faddr 0 (.t 2), none⟩,
    ⟨some 13, .load false 1 (.t 12), none⟩,
    ⟨some 14, .faddr 1 (.t 2), none⟩,
    ⟨some 15, .load false 1 (.t 14), none⟩,
    ⟨some 16, .faddr 1 (.t 3), none⟩,
    ⟨some 17, .load false 1 (.t 16), none⟩,
    ⟨some 18, .max (.t 15) (.t 17), none⟩,
    ⟨some 19, .faddr 2 (.t 2), none⟩,
    ⟨some 20, .load false 1 (.t 19), none⟩,
    ⟨some 21, .faddr 2 (.t 3), none⟩,
    ⟨some 22, .load false 1 (.t 21), none⟩,
    ⟨some 23, .call 470 [.t 20, .t 22] [] [(0, 12300)], none⟩,
    ⟨some 24, .faddr 3 (.t 2), none⟩,
    ⟨some 25, .load false 1 (.t 24), none⟩,
    ⟨some 26, .faddr 3 (.t 3), none⟩,
    ⟨some 27, .load false 1 (.t 26), none⟩,
    ⟨some 28, .max (.t 25) (.t 27), none⟩,
    ⟨some 29, .build [.int .i64 0, .int .i64 0, .nils 3, .str ⟨#[]⟩] [(0, 1, .t 13), (1, 1, .t 18), (2, 1, .t 23), (3, 1, .t 28)], none⟩,
    ⟨none, .store 4 (.t 4) (.t 29), none⟩] [[], [0], [], [2], [], [4], [2, 3, 4, 5], [], [7], [], [9], [7, 8, 9, 10], [], [12], [], [14], [12, 13, 14, 15], List.range 17, List.range 18] [4] [4, 11102, 12300])
  (.ret)))
def impl_JoinMail.m : Fn := { np := 2, body := impl_JoinMail.b, res := [.cell 4 true 4] }
def impl_JoinMail.k (M : Nat → Option Body) : Prop := M 452 = some (.code impl_JoinMail.m) ∧ impl_copyMail.k M ∧ impl_JoinFlags.k M
def spec_JoinReg.b : C := .seq (.reg [⟨some 2, .box (.t 0), none⟩,
    ⟨some 3, .box (.t 1), none⟩,
    ⟨some 4, .alloc [.int .i64 0, .int .i64 0, .int .i64 0], none⟩] [2, 3, 4] [2, 3, 4])
  (.seq (.seq (.reg [⟨some 5, .faddr 1 (.t 2), none⟩,
    ⟨some 6, .load true 2 (.t 5), none⟩,
    ⟨some 7, .faddr 1 (.t 3), none⟩,
    ⟨some 8, .load true 2 (.t 7), none⟩,
    ⟨some 9, .call 277 [.t 6, .t 8] [] [], none⟩,
    ⟨some 10, .mv (.t 9), none⟩,
    ⟨some 11, .faddr 1 (.t 2), some (10, false)⟩,
    ⟨some 12, .load true 2 (.t 11), some (10, false)⟩,
    ⟨some 13, .faddr 1 (.t 3), some (10, false)⟩,
    ⟨some 14, .load true 2 (.t 13), some (10, false)⟩,
    ⟨some 15, .eqs false [.int, .int] (.t 12) (.t 14), some (10, false)⟩,
    ⟨some 16, .mv (.t 15), some (10, false)⟩,
    ⟨some 17, .faddr 0 (.t 2), some (16, true)⟩,
    ⟨some 18, .load false 1 (.t 17), some (16, true)⟩,
    ⟨some 19, .faddr 0 (.t 3), some (16, true)⟩,
    ⟨some 20, .load false 1 (.t 19), some (16, true)⟩,
    ⟨some 21, .bin .geq (.t 18) (.t 20), some (16, true)⟩,
    ⟨some 22, .pick (.t 16) (.t 21) (.k (.bool false)), some (10, false)⟩,
    ⟨some 23, .pick (.t 10) (.k (.bool true)) (.t 22), none⟩] [2, 3, 4, 23] [2, 3, 4])
  (.cond (.t 23) (.seq (.reg [⟨some 24, .load true 3 (.t 2), none⟩,
    ⟨none, .store 3 (.t 4) (.t 24), none⟩] [4] [4])
  (.ret)) (.skip)))
  (.seq (.reg [⟨some 25, .load true 3 (.t 3), none⟩,
    ⟨none, .store 3 (.t 4) (.t 25), none⟩] [4] [4])
  (.ret)))
def spec_JoinReg.m : Fn := { np := 2, body := spec_JoinReg.b, res := [.cell 4 true 3] }
def spec_JoinReg.k (M : Nat → Option Body) : Prop := M 488 = some (.code spec_JoinReg.m) ∧ spec_Later.k M
def spec_JoinFlags.l0 : C := .seq (.seq (.reg [⟨some 8, .mv (.t 6), none⟩,
    ⟨some 9, .mv (.t 0), none⟩,
    ⟨some 10, .len (.t 9), none⟩,
    ⟨some 11, .bin .lss (.t 8) (.t 10), none⟩,
    ⟨some 12, .mv (.t 11), none⟩,
    ⟨some 13, .mv (.t 6), some (12, true)⟩,
    ⟨some 14, .mv (.t 1), some (12, true)⟩,
    ⟨some 15, .len (.t 14), some (12, true)⟩,
    ⟨some 16, .bin .lss (.t 13) (.t 15), some (12, true)⟩,
    ⟨some 17, .pick (.t 12) (.t 16) (.k (.bool false)), none⟩] [0, 1, 5, 6, 17] [7, 31])
  (.cond (.t 17) (.skip) (.exit 0)))
  (.seq (.block 1 (.regd [⟨some 20, .mv (.t 5), none⟩,
    ⟨some 21, .mv (.t 0), none⟩,
    ⟨some 22, .mv (.t 6), none⟩,
    ⟨some 23, .iaddr 3 (.t 21) (.t 22), none⟩,
    ⟨some 24, .load true 3 (.t 23), none⟩,
    ⟨some 25, .mv (.t 1), none⟩,
    ⟨some 26, .mv (.t 6), none⟩,
    ⟨some 27, .iaddr 3 (.t 25) (.t 26), none⟩,
    ⟨some 28, .load true 3 (.t 27), none⟩,
    ⟨some 29, .call 488 [.t 24, .t 28] [] [], none⟩,
    ⟨some 30, .bslice 3 1 [.int .i64 0, .int .i64 0, .int .i64 0] [(0, .t 29)], none⟩,
    ⟨some 31, .app 3 24 (.t 20) (.t 30), none⟩,
    ⟨some 5, .mv (.t 31), none⟩] [[], [], [], [1, 2], [1, 2, 3], [], [], [5, 6], [5, 6, 7], [1, 2, 3, 4, 5, 6, 7, 8], [1, 2, 3, 4, 5, 6, 7, 8, 9], List.range 11, List.range 12] [0, 1, 5, 6] [7, 31]))
  (.reg [⟨some 18, .mv (.t 6), none⟩,
    ⟨some 19, .bin .add (.t 18) (.k (.int .i64 1)), none⟩,
    ⟨some 6, .mv (.t 19), none⟩] [0, 1, 5, 6] [7, 31]))
def spec_JoinFlags.b : C := .seq (.reg [⟨some 4, .nil 3, none⟩] [0, 1] [])
  (.seq (.reg [⟨some 7, .bslice 3 0 [.int .i64 0, .int .i64 0, .int .i64 0] [], none⟩,
    ⟨some 5, .mv (.t 7), none⟩] [0, 1, 5] [7, 31])
  (.seq (.seq (.reg [⟨some 6, .mv (.k (.int .i64 0)), none⟩] [0, 1, 5, 6] [7, 31])
  (.block 0 (.loop spec_JoinFlags.l0)))
  (.seq (.reg [⟨some 32, .mv (.t 5), none⟩,
    ⟨some 4, .mv (.t 32), none⟩] [4] [4, 7, 31])
  (.ret))))
def spec_JoinFlags.m : Fn := { np := 2, body := spec_JoinFlags.b, res := [.tmp 4] }
def spec_JoinFlags.k (M : Nat → Option Body) : Prop := M 472 = some (.code spec_JoinFlags.m) ∧ spec_JoinReg.k M
def spec_JoinMail.b : C := .seq (.reg [⟨some 2, .box (.t 0), none⟩,
    ⟨some 3, .box (.t 1), none⟩,
    ⟨some 4, .alloc [.int .i64 0, .int .i64 0, .nils 3, .str ⟨#[]⟩], none⟩] [2, 3, 4] [2, 3, 4, 10702, 11800])
  (.seq (.reg [⟨some 6, .load true 4 (.t 2), none⟩,
    ⟨some 7, .call 238 [.t 6] [] [(2, 10702)], none⟩,
    ⟨some 5, .alloc [.int .i64 0, .int .i64 0, .nils 3, .str ⟨#[]⟩], none⟩,
    ⟨none, .store 4 (.t 5) (.t 7), none⟩] [2, 3, 4, 5] [2, 3, 4, 5, 10702, 11800])
  (.seq (.seq (.reg [⟨some 8, .faddr 0 (.t 2), none⟩,
    ⟨some 9, .load false 1 (.t 8), none⟩,
    ⟨some 10, .faddr 0 (.t 3), none⟩,
    ⟨some 11, .load false 1 (.t 10), none⟩,
    ⟨some 12, .bin .neq (.t 9) (.t 11), none⟩] [2, 3, 4, 5, 12] [2, 3, 4, 5, 10702, 11800])
  (.cond (.t 12) (.seq (.reg [⟨some 13, .load true 4 (.t 5), none⟩,
    ⟨none, .store 4 (.t 4) (.t 13), none⟩] [4] [4, 10702, 11800])
  (.ret)) (.skip)))
  (.seq (.reg [⟨some 14, .faddr 2 (.t 2), none⟩,
    ⟨some 15, .load false 1 (.t 14), none⟩,
    ⟨some 16, .faddr 2 (.t 3), none⟩,
    ⟨some 17, .load false 1 (.t 16), none⟩,
    ⟨some 18, .call 472 [.t 15, .t 17] [] [(0, 11800)], none⟩,
    ⟨some 19, .faddr 2 (.t 5), none⟩,
    ⟨none, .store 1 (.t 19) (.t 18), none⟩] [2, 3, 4, 5] [2, 3, 4, 5, 10702, 11800])
  (.seq (.seq (.reg [⟨some 20, .faddr 1 (.t 3), none⟩,
    ⟨some 21, .load false 1 (.t 20), none⟩,
    ⟨some 22, .faddr 1 (.t 2), none⟩,
    ⟨some 23, .load false 1 (.t 22), none⟩,
    ⟨some 24, .bin .gtr (.t 21) (.t 23), none⟩] [2, 3, 4, 5, 24] [2, 3, 4, 5, 10702, 11800])
  (.cond (.t 24) (.reg [⟨some 25, .faddr 1 (.t 3), none⟩,
    ⟨some 26, .load false 1 (.t 25), none⟩,
    ⟨some 27, .faddr 1 (.t 5), none⟩,
    ⟨none, .store 1 (.t 27) (.t 26), none⟩] [2, 3, 4, 5] [2, 3, 4, 5, 10702, 11800]) (.skip)))
  (.seq (.seq (.reg [⟨some 28, .faddr 3 (.t 3), none⟩,
    ⟨some 29, .load false 1 (.t 28), none⟩,
    ⟨some 30, .faddr 3 (.t 2), none⟩,
    ⟨some 31, .load false 1 (.t 30), none⟩,
    ⟨some 32, .bin .gtr (.t 29) (.t 31), none⟩] [3, 4, 5, 32] [3, 4, 5, 10702, 11800])
  (.cond (.t 32) (.reg [⟨some 33, .faddr 3 (.t 3), none⟩,
    ⟨some 34, .load false 1 (.t 33), none⟩,
    ⟨some 35, .faddr 3 (.t 5), none⟩,
    ⟨none, .store 1 (.t 35) (.t 34), none⟩] [4, 5] [4, 5, 10702, 11800]) (.skip)))
  (.seq (.reg [⟨some 36, .load true 4 (.t 5), none⟩,
    ⟨none, .store 4 (.t 4) (.t 36), none⟩] [4] [4, 10702, 11800])
  (.ret)))))))
def spec_JoinMail.m : Fn := { np := 2, body := spec_JoinMail.b, res := [.cell 4 true 4] }
def spec_JoinMail.k (M : Nat → Option Body) : Prop := M 461 = some (.code spec_JoinMail.m) ∧ spec_l05Copy.k M ∧ spec_JoinFlags.k M
end Mx

namespace Mx
open Go
def slices_DeleteFunc_impl_Mail_impl_Mail.l0 : C := .seq (.seq (.reg [⟨some 16, .mv (.t 6), none⟩,
    ⟨some 17, .mv (.t 0), none⟩,
    ⟨some 18, .len (.t 17), none⟩,
    ⟨some 19, .bin .lss (.t 16) (.t 18), none⟩] [0, 1, 5, 6, 19] [0])
  (.cond (.t 19) (.skip) (.exit 0)))
  (.seq (.block 1 (.seq (.reg [⟨some 22, .mv (.t 0), none⟩,
    ⟨some 23, .mv (.t 6), none⟩,
    ⟨some 24, .iaddr 4 (.t 22) (.t 23), none⟩,
    ⟨some 25, .load true 4 (.t 24), none⟩,
    ⟨some 7, .alloc [.int .i64 0, .int .i64 0, .nils 3, .str ⟨#[]⟩], none⟩,
    ⟨none, .store 4 (.t 7) (.t 25), none⟩] [0, 1, 5, 6, 7] [0, 7])
  (.seq (.reg [⟨some 26, .mv (.t 1), none⟩,
    ⟨some 27, .load true 4 (.t 7), none⟩,
    ⟨some 28, .callv (.t 26) [.t 27], none⟩,
    ⟨some 29, .not (.t 28), none⟩] [0, 1, 5, 6, 7, 29] [0, 7])
  (.cond (.t 29) (.seq (.reg [⟨some 30, .mv (.t 0), none⟩,
    ⟨some 31, .mv (.t 5), none⟩,
    ⟨some 32, .load true 4 (.t 7), none⟩,
    ⟨some 33, .iaddr 4 (.t 30) (.t 31), none⟩,
    ⟨none, .store 4 (.t 33) (.t 32), none⟩] [0, 1, 5, 6] [0])
  (.reg [⟨some 34, .mv (.t 5), none⟩,
    ⟨some 35, .bin .add (.t 34) (.k (.int .i64 1)), none⟩,
    ⟨some 5, .mv (.t 35), none⟩] [0, 1, 5, 6] [0])) (.skip)))))
  (.reg [⟨some 20, .mv (.t 6), none⟩,
    ⟨some 21, .bin .add (.t 20) (.k (.int .i64 1)), none⟩,
    ⟨some 6, .mv (.t 21), none⟩] [0, 1, 5, 6] [0]))
def slices_DeleteFunc_impl_Mail_impl_Mail.b : C := .seq (.reg [⟨some 4, .nil 4, none⟩] [0, 1] [0])
  (.seq (.reg [⟨some 8, .mv (.t 0), none⟩,
    ⟨some 9, .mv (.t 1), none⟩,
    ⟨some 10, .call 161 [.t 8, .t 9] [] [], none⟩,
    ⟨some 5, .mv (.t 10), none⟩] [0, 1, 5] [0])
  (.seq (.seq (.reg [⟨some 11, .mv (.t 5), none⟩,
    ⟨some 12, .bin .eql (.t 11) (.k (.int .i64 (-1))), none⟩] [0, 1, 5, 12] [0])
  (.cond (.t 12) (.seq (.reg [⟨some 13, .mv (.t 0), none⟩,
    ⟨some 4, .mv (.t 13), none⟩] [4] [0, 4])
  (.ret)) (.skip)))
  (.seq (.seq (.reg [⟨some 14, .mv (.t 5), none⟩,
    ⟨some 15, .bin .add (.t 14) (.k (.int .i64 1)), none⟩,
    ⟨some 6, .mv (.t 15), none⟩] [0, 1, 5, 6] [0])
  (.block 0 (.loop slices_DeleteFunc_impl_Mail_impl_Mail.l0)))
  (.seq (.reg [⟨some 36, .mv (.t 0), none⟩,
    ⟨some 37, .mv (.t 5), none⟩,
    ⟨some 38, .slc 4 (.t 36) (some (.t 37)) none none, none⟩,
    ⟨none, .clr [.int .i64 0, .int .i64 0, .nils 3, .str ⟨#[]⟩] (.t 38), none⟩] [0, 5] [0])
  (.seq (.reg [⟨some 39, .mv (.t 0), none⟩,
    ⟨some 40, .mv (.t 5), none⟩,
    ⟨some 41, .slc 4 (.t 39) none (some (.t 40)) none, none⟩,
    ⟨some 4, .mv (.t 41), none⟩] [4] [0, 4])
  (.ret))))))
def slices_DeleteFunc_impl_Mail_impl_Mail.m : Fn := { np := 2, body := slices_DeleteFunc_impl_Mail_impl_Mail.b, res := [.tmp 4] }
def slices_DeleteFunc_impl_Mail_impl_Mail.k (M : Nat → Option Body) : Prop := M 453 = some (.code slices_DeleteFunc_impl_Mail_impl_Mail.m) ∧ slices_IndexFunc_impl_Mail_impl_Mail.k M
def impl_joined_1.b : C := .seq (.reg [⟨some 2, .box (.t 0), none⟩,
    ⟨some 3, .mv (.k (.bool false)), none⟩] [1, 2] [2])
  (.seq (.reg [⟨some 4, .load false 1 (.t 1), none⟩,
    ⟨some 5, .faddr 0 (.t 2), none⟩,
    ⟨some 6, .load false 1 (.t 5), none⟩,
    ⟨some 7, .call 156 [.t 4, .t 6] [] [], none⟩,
    ⟨some 3, .mv (.t 7), none⟩] [3] [])
  (.ret))
def impl_joined_1.m : Fn := { np := 2, body := impl_joined_1.b, res := [.tmp 3] }
def impl_joined_1.k (M : Nat → Option Body) : Prop := M 454 = some (.code impl_joined_1.m) ∧ slices_Contains_int_int.k M
def slices_insertionSortCmpFunc_impl_Mail.l1 : C := .seq (.seq (.regd [⟨some 18, .mv (.t 9), none⟩,
    ⟨some 19, .mv (.t 1), none⟩,
    ⟨some 20, .bin .gtr (.t 18) (.t 19), none⟩,
    ⟨some 21, .mv (.t 20), none⟩,
    ⟨some 22, .mv (.t 3), some (21, true)⟩,
    ⟨some 23, .mv (.t 0), some (21, true)⟩,
    ⟨some 24, .mv (.t 9), some (21, true)⟩,
    ⟨some 25, .iaddr 4 (.t 23) (.t 24), some (21, true)⟩,
    ⟨some 26, .load true 4 (.t 25), some (21, true)⟩,
    ⟨some 27, .mv (.t 0), some (21, true)⟩,
    ⟨some 28, .mv (.t 9), some (21, true)⟩,
    ⟨some 29, .bin .sub (.t 28) (.k (.int .i64 1)), some (21, true)⟩,
    ⟨some 30, .iaddr 4 (.t 27) (.t 29), some (21, true)⟩,
    ⟨some 31, .load true 4 (.t 30), some (21, true)⟩,
    ⟨some 32, .callv (.t 22) [.t 26, .t 31], some (21, true)⟩,
    ⟨some 33, .bin .lss (.t 32) (.k (.int .i64 0)), some (21, true)⟩,
    ⟨some 34, .pick (.t 21) (.t 33) (.k (.bool false)), none⟩] [[], [], [0, 1], [0, 1, 2], List.range 4, List.range 4, List.range 4, List.range 4 ++ [5, 6], List.range 4 ++ [5, 6, 7], List.range 4, List.range 4, List.range 4 ++ [10], List.range 4 ++ [9, 10, 11], List.range 4 ++ [9, 10, 11, 12], List.range 14, List.range 15, List.range 16] [0, 1, 2, 3, 8, 9, 34] [0])
  (.cond (.t 34) (.skip) (.exit 2)))
  (.seq (.block 3 (.regd [⟨some 37, .mv (.t 0), none⟩,
    ⟨some 38, .mv (.t 9), none⟩,
    ⟨some 39, .mv (.t 0), none⟩,
    ⟨some 40, .mv (.t 9), none⟩,
    ⟨some 41, .bin .sub (.t 40) (.k (.int .i64 1)), none⟩,
    ⟨some 42, .mv (.t 0), none⟩,
    ⟨some 43, .mv (.t 9), none⟩,
    ⟨some 44, .bin .sub (.t 43) (.k (.int .i64 1)), none⟩,
    ⟨some 45, .iaddr 4 (.t 42) (.t 44), none⟩,
    ⟨some 46, .load true 4 (.t 45), none⟩,
    ⟨some 47, .mv (.t 0), none⟩,
    ⟨some 48, .mv (.t 9), none⟩,
    ⟨some 49, .iaddr 4 (.t 47) (.t 48), none⟩,
    ⟨some 50, .load true 4 (.t 49), none⟩,
    ⟨some 51, .iaddr 4 (.t 37) (.t 38), none⟩,
    ⟨none, .store 4 (.t 51) (.t 46), none⟩,
    ⟨some 52, .iaddr 4 (.t 39) (.t 41), none⟩,
    ⟨none, .store 4 (.t 52) (.t 50), none⟩] [[], [], [], [], [3], [], [], [6], [5, 6, 7], [5, 6, 7, 8], [], [], [10, 11], [10, 11, 12], [0, 1, 5, 6, 7, 8, 9, 10, 11, 12, 13], [0, 1, 5, 6, 7, 8, 9, 10, 11, 12, 13, 14], List.range 16, List.range 17] [0, 1, 2, 3, 8, 9] [0]))
  (.reg [⟨some 35, .mv (.t 9), none⟩,
    ⟨some 36, .bin .sub (.t 35) (.k (.int .i64 1)), none⟩,
    ⟨some 9, .mv (.t 36), none⟩] [0, 1, 2, 3, 8, 9] [0]))
def slices_insertionSortCmpFunc_impl_Mail.l0 : C := .seq (.seq (.reg [⟨some 12, .mv (.t 8), none⟩,
    ⟨some 13, .mv (.t 2), none⟩,
    ⟨some 14, .bin .lss (.t 12) (.t 13), none⟩] [0, 1, 2, 3, 8, 14] [0])
  (.cond (.t 14) (.skip) (.exit 0)))
  (.seq (.block 1 (.seq (.reg [⟨some 17, .mv (.t 8), none⟩,
    ⟨some 9, .mv (.t 17), none⟩] [0, 1, 2, 3, 8, 9] [0])
  (.block 2 (.loop slices_insertionSortCmpFunc_impl_Mail.l1))))
  (.reg [⟨some 15, .mv (.t 8), none⟩,
    ⟨some 16, .bin .add (.t 15) (.k (.int .i64 1)), none⟩,
    ⟨some 8, .mv (.t 16), none⟩] [0, 1, 2, 3, 8] [0]))
def slices_insertionSortCmpFunc_impl_Mail.b : C := .seq (.reg [⟨some 10, .mv (.t 1), none⟩,
    ⟨some 11, .bin .add (.t 10) (.k (.int .i64 1)), none⟩,
    ⟨some 8, .mv (.t 11), none⟩] [0, 1, 2, 3, 8] [0])
  (.block 0 (.loop slices_insertionSortCmpFunc_impl_Mail.l0))
def slices_insertionSortCmpFunc_impl_Mail.m : Fn := { np := 4, body := slices_insertionSortCmpFunc_impl_Mail.b, res := [] }
def slices_insertionSortCmpFunc_impl_Mail.k (M : Nat → Option Body) : Prop := M 486 = some (.code slices_insertionSortCmpFunc_impl_Mail.m)
def slices_stableCmpFunc_impl_Mail.l0 : C := .seq (.seq (.reg [⟨some 11, .mv (.t 8), none⟩,
    ⟨some 12, .mv (.t 1), none⟩,
    ⟨some 13, .bin .leq (.t 11) (.t 12), none⟩] [0, 1, 2, 6, 7, 8, 13] [0])
  (.cond (.t 13) (.skip) (.exit 0)))
  (.block 1 (.seq (.reg [⟨some 14, .mv (.t 0), none⟩,
    ⟨some 15, .mv (.t 7), none⟩,
    ⟨some 16, .mv (.t 8), none⟩,
    ⟨some 17, .mv (.t 2), none⟩,
    ⟨some 18, .call 486 [.t 14, .t 15, .t 16, .t 17] [0] [], none⟩] [0, 1, 2, 6, 8] [0])
  (.seq (.reg [⟨some 19, .mv (.t 8), none⟩,
    ⟨some 7, .mv (.t 19), none⟩] [0, 1, 2, 6, 7, 8] [0])
  (.reg [⟨some 20, .mv (.t 8), none⟩,
    ⟨some 21, .mv (.t 6), none⟩,
    ⟨some 22, .bin .add (.t 20) (.t 21), none⟩,
    ⟨some 8, .mv (.t 22), none⟩] [0, 1, 2, 6, 7, 8] [0]))))
def slices_stableCmpFunc_impl_Mail.l2 : C := .seq (.seq (.reg [⟨some 33, .mv (.t 8), none⟩,
    ⟨some 34, .mv (.t 1), none⟩,
    ⟨some 35, .bin .leq (.t 33) (.t 34), none⟩] [0, 1, 2, 6, 7, 8, 35] [0])
  (.cond (.t 35) (.skip) (.exit 4)))
  (.block 5 (.seq (.reg [⟨some 36, .mv (.t 0), none⟩,
    ⟨some 37, .mv (.t 7), none⟩,
    ⟨some 38, .mv (.t 7), none⟩,
    ⟨some 39, .mv (.t 6), none⟩,
    ⟨some 40, .bin .add (.t 38) (.t 39), none⟩,
    ⟨some 41, .mv (.t 8), none⟩,
    ⟨some 42, .mv (.t 2), none⟩,
    ⟨some 43, .call 487 [.t 36, .t 37, .t 40, .t 41, .t 42] [0] [], none⟩] [0, 1, 2, 6, 8] [0])
  (.seq (.reg [⟨some 44, .mv (.t 8), none⟩,
    ⟨some 7, .mv (.t 44), none⟩] [0, 1, 2, 6, 7, 8] [0])
  (.reg [⟨some 45, .mv (.t 8), none⟩,
    ⟨some 46, .mv (.t 6), none⟩,
    ⟨some 47, .bin .mul (.k (.int .i64 2)) (.t 46), none⟩,
    ⟨some 48, .bin .add (.t 45) (.t 47), none⟩,
    ⟨some 8, .mv (.t 48), none⟩] [0, 1, 2, 6, 7, 8] [0]))))
def slices_stableCmpFunc_impl_Mail.l1 : C := .seq (.seq (.reg [⟨some 28, .mv (.t 6), none⟩,
    ⟨some 29, .mv (.t 1), none⟩,
    ⟨some 30, .bin .lss (.t 28) (.t 29), none⟩] [0, 1, 2, 6, 30] [0])
  (.cond (.t 30) (.skip) (.exit 2)))
  (.block 3 (.seq (.reg [⟨some 31, .mv (.t 6), none⟩,
    ⟨some 32, .bin .mul (.k (.int .i64 2)) (.t 31), none⟩,
    ⟨some 7, .mv (.k (.int .i64 0)), none⟩,
    ⟨some 8, .mv (.t 32), none⟩] [0, 1, 2, 6, 7, 8] [0])
  (.seq (.block 4 (.loop slices_stableCmpFunc_impl_Mail.l2))
  (.seq (.seq (.reg [⟨some 49, .mv (.t 7), none⟩,
    ⟨some 50, .mv (.t 6), none⟩,
    ⟨some 51, .bin .add (.t 49) (.t 50), none⟩,
    ⟨some 9, .mv (.t 51), none⟩] [0, 1, 2, 6, 7, 9] [0])
  (.seq (.reg [⟨some 52, .mv (.t 9), none⟩,
    ⟨some 53, .mv (.t 1), none⟩,
    ⟨some 54, .bin .lss (.t 52) (.t 53), none⟩] [0, 1, 2, 6, 7, 9, 54] [0])
  (.cond (.t 54) (.reg [⟨some 55, .mv (.t 0), none⟩,
    ⟨some 56, .mv (.t 7), none⟩,
    ⟨some 57, .mv (.t 9), none⟩,
    ⟨some 58, .mv (.t 1), none⟩,
    ⟨some 59, .mv (.t 2), none⟩,
    ⟨some 60, .call 487 [.t 55, .t 56, .t 57, .t 58, .t 59] [0] [], none⟩] [0, 1, 2, 6] [0]) (.skip))))
  (.reg [⟨some 61, .mv (.t 6), none⟩,
    ⟨some 62, .bin .mul (.t 61) (.k (.int .i64 2)), none⟩,
    ⟨some 6, .mv (.t 62), none⟩] [0, 1, 2, 6] [0])))))
def slices_stableCmpFunc_impl_Mail.b : C := .seq (.reg [⟨some 6, .mv (.k (.int .i64 20)), none⟩] [0, 1, 2, 6] [0])
  (.seq (.reg [⟨some 10, .mv (.t 6), none⟩,
    ⟨some 7, .mv (.k (.int .i64 0)), none⟩,
    ⟨some 8, .mv (.t 10), none⟩] [0, 1, 2, 6, 7, 8] [0])
  (.seq (.block 0 (.loop slices_stableCmpFunc_impl_Mail.l0))
  (.seq (.reg [⟨some 23, .mv (.t 0), none⟩,
    ⟨some 24, .mv (.t 7), none⟩,
    ⟨some 25, .mv (.t 1), none⟩,
    ⟨some 26, .mv (.t 2), none⟩,
    ⟨some 27, .call 486 [.t 23, .t 24, .t 25, .t 26] [0] [], none⟩] [0, 1, 2, 6] [0])
  (.block 2 (.loop slices_stableCmpFunc_impl_Mail.l1)))))
def slices_stableCmpFunc_impl_Mail.m : Fn := { np := 3, body := slices_stableCmpFunc_impl_Mail.b, res := [] }
def slices_stableCmpFunc_impl_Mail.k (M : Nat → Option Body) : Prop := M 471 = some (.code slices_stableCmpFunc_impl_Mail.m) ∧ slices_insertionSortCmpFunc_impl_Mail.k M
def slices_SortStableFunc_impl_Mail_impl_Mail.b : C := .reg [⟨some 4, .mv (.t 0), none⟩,
    ⟨some 5, .mv (.t 0), none⟩,
    ⟨some 6, .len (.t 5), none⟩,
    ⟨some 7, .mv (.t 1), none⟩,
    ⟨some 8, .call 471 [.t 4, .t 6, .t 7] [0] [], none⟩] [] [0]
def slices_SortStableFunc_impl_Mail_impl_Mail.m : Fn := { np := 2, body := slices_SortStableFunc_impl_Mail_impl_Mail.b, res := [] }
def slices_SortStableFunc_impl_Mail_impl_Mail.k (M : Nat → Option Body) : Prop := M 455 = some (.code slices_SortStableFunc_impl_Mail_impl_Mail.m) ∧ slices_stableCmpFunc_impl_Mail.k M
def impl_compare.b : C := .seq (.reg [⟨some 4, .mv (.k (.int .i64 0)), none⟩] [0, 1] [])
  (.seq (.block 0 (.seq (.reg [⟨some 6, .mv (.t 0), none⟩,
    ⟨some 7, .mv (.t 1), none⟩,
    ⟨some 8, .bin .lss (.t 6) (.t 7), none⟩,
    ⟨some 5, .mv (.t 8), none⟩] [0, 1, 5] [])
  (.cond (.t 5) (.seq (.reg [⟨some 4, .mv (.k (.int .i64 (-1))), none⟩] [4] [])
  (.ret)) (.seq (.reg [⟨some 10, .mv (.t 0), none⟩,
    ⟨some 11, .mv (.t 1), none⟩,
    ⟨some 12, .bin .gtr (.t 10) (.t 11), none⟩,
    ⟨some 9, .mv (.t 12), none⟩] [9] [])
  (.cond (.t 9) (.seq (.reg [⟨some 4, .mv (.k (.int .i64 1)), none⟩] [4] [])
  (.ret)) (.skip))))))
  (.seq (.reg [⟨some 4, .mv (.k (.int .i64 0)), none⟩] [4] [])
  (.ret)))
def impl_compare.m : Fn := { np := 2, body := impl_compare.b, res := [.tmp 4] }
def impl_compare.k (M : Nat → Option Body) : Prop := M 457 = some (.code impl_compare.m)
def impl_joined_2.b : C := .seq (.reg [⟨some 2, .box (.t 0), none⟩,
    ⟨some 3, .box (.t 1), none⟩,
    ⟨some 4, .mv (.k (.int .i64 0)), none⟩] [2, 3] [2, 3])
  (.seq (.reg [⟨some 5, .faddr 0 (.t 2), none⟩,
    ⟨some 6, .load false 1 (.t 5), none⟩,
    ⟨some 7, .faddr 0 (.t 3), none⟩,
    ⟨some 8, .load false 1 (.t 7), none⟩,
    ⟨some 9, .call 457 [.t 6, .t 8] [] [], none⟩,
    ⟨some 4, .mv (.t 9), none⟩] [4] [])
  (.ret))
def impl_joined_2.m : Fn := { np := 2, body := impl_joined_2.b, res := [.tmp 4] }
def impl_joined_2.k (M : Nat → Option Body) : Prop := M 456 = some (.code impl_joined_2.m) ∧ impl_compare.k M
def impl_joined_3.b : C := .seq (.reg [⟨some 2, .box (.t 0), none⟩,
    ⟨some 3, .box (.t 1), none⟩,
    ⟨some 4, .mv (.k (.int .i64 0)), none⟩] [2, 3] [2, 3])
  (.seq (.reg [⟨some 5, .faddr 1 (.t 2), none⟩,
    ⟨some 6, .load false 1 (.t 5), none⟩,
    ⟨some 7, .faddr 1 (.t 3), none⟩,
    ⟨some 8, .load false 1 (.t 7), none⟩,
    ⟨some 9, .call 457 [.t 6, .t 8] [] [], none⟩,
    ⟨some 4, .mv (.t 9), none⟩] [4] [])
  (.ret))
def impl_joined_3.m : Fn := { np := 2, body := impl_joined_3.b, res := [.tmp 4] }
def impl_joined_3.k (M : Nat → Option Body) : Prop := M 458 = some (.code impl_joined_3.m) ∧ impl_compare.k M
def impl_joined.l0 : C := .seq (.reg [⟨some 21, .bin .lss (.t 20) (.t 19), none⟩] [2, 3, 6, 18, 19, 20, 21] [2, 3, 16, 41, 59, 16800])
  (.seq (.cond (.t 21) (.skip) (.exit 0))
  (.seq (.block 1 (.seq (.reg [⟨some 22, .iaddr 4 (.t 18) (.t 20), none⟩,
    ⟨some 23, .load true 4 (.t 22), none⟩,
    ⟨some 8, .alloc [.int .i64 0, .int .i64 0, .nils 3, .str ⟨#[]⟩], none⟩,
    ⟨none, .store 4 (.t 8) (.t 23), none⟩] [2, 3, 6, 8, 18, 19, 20] [2, 3, 8, 16, 41, 59, 16800])
  (.seq (.seq (.reg [⟨some 24, .load true 7 (.t 3), none⟩,
    ⟨some 25, .faddr 0 (.t 8), none⟩,
    ⟨some 26, .load false 1 (.t 25), none⟩,
    ⟨some 27, .call 72 [.t 24, .t 26] [] [], none⟩,
    ⟨some 9, .mv (.t 27), none⟩] [2, 3, 6, 8, 9, 18, 19, 20] [2, 3, 8, 16, 41, 59, 16800])
  (.seq (.reg [⟨some 28, .mv (.t 9), none⟩,
    ⟨some 29, .bin .geq (.t 28) (.k (.int .i64 0)), none⟩] [2, 3, 6, 8, 9, 18, 19, 20, 29] [2, 3, 8, 16, 41, 59, 16800])
  (.cond (.t 29) (.regd [⟨some 30, .load true 4 (.t 8), none⟩,
    ⟨some 31, .faddr 5 (.t 3), none⟩,
    ⟨some 32, .load false 1 (.t 31), none⟩,
    ⟨some 33, .mv (.t 9), none⟩,
    ⟨some 34, .iaddr 4 (.t 32) (.t 33), none⟩,
    ⟨some 35, .load true 4 (.t 34), none⟩,
    ⟨some 36, .call 452 [.t 30, .t 35] [] [], none⟩,
    ⟨none, .store 4 (.t 8) (.t 36), none⟩] [[], [], [1], [], [1, 2, 3], [1, 2, 3, 4], List.range 6, List.range 7] [2, 3, 6, 8, 18, 19, 20] [2, 3, 8, 16, 41, 59, 16800]) (.skip))))
  (.reg [⟨some 37, .mv (.t 6), none⟩,
    ⟨some 38, .load true 4 (.t 8), none⟩,
    ⟨some 39, .call 233 [.t 38] [] [], none⟩,
    ⟨some 40, .bslice 4 1 [.int .i64 0, .int .i64 0, .nils 3, .str ⟨#[]⟩] [(0, .t 39)], none⟩,
    ⟨some 41, .app 4 56 (.t 37) (.t 40), none⟩,
    ⟨some 6, .mv (.t 41), none⟩] [2, 3, 6, 18, 19, 20] [2, 3, 16, 41, 59, 16800]))))
  (.reg [⟨some 42, .bin .add (.t 20) (.k (.int .i64 1)), none⟩,
    ⟨some 20, .mv (.t 42), none⟩] [2, 3, 6, 18, 19, 20] [2, 3, 16, 41, 59, 16800])))
def impl_joined.l1 : C := .seq (.reg [⟨some 47, .bin .lss (.t 46) (.t 45), none⟩] [2, 3, 6, 44, 45, 46, 47] [2, 3, 16, 41, 59, 16800])
  (.seq (.cond (.t 47) (.skip) (.exit 2))
  (.seq (.block 3 (.seq (.reg [⟨some 48, .iaddr 4 (.t 44) (.t 46), none⟩,
    ⟨some 49, .load true 4 (.t 48), none⟩,
    ⟨some 11, .alloc [.int .i64 0, .int .i64 0, .nils 3, .str ⟨#[]⟩], none⟩,
    ⟨none, .store 4 (.t 11) (.t 49), none⟩] [2, 3, 6, 11, 44, 45, 46] [2, 3, 11, 16, 41, 59, 16800])
  (.seq (.reg [⟨some 50, .load true 7 (.t 2), none⟩,
    ⟨some 51, .faddr 0 (.t 11), none⟩,
    ⟨some 52, .load false 1 (.t 51), none⟩,
    ⟨some 53, .call 20 [.t 50, .t 52] [] [], none⟩,
    ⟨some 54, .not (.t 53), none⟩] [2, 3, 6, 11, 44, 45, 46, 54] [2, 3, 11, 16, 41, 59, 16800])
  (.cond (.t 54) (.reg [⟨some 55, .mv (.t 6), none⟩,
    ⟨some 56, .load true 4 (.t 11), none⟩,
    ⟨some 57, .call 233 [.t 56] [] [], none⟩,
    ⟨some 58, .bslice 4 1 [.int .i64 0, .int .i64 0, .nils 3, .str ⟨#[]⟩] [(0, .t 57)], none⟩,
    ⟨some 59, .app 4 56 (.t 55) (.t 58), none⟩,
    ⟨some 6, .mv (.t 59), none⟩] [2, 3, 6, 44, 45, 46] [2, 3, 16, 41, 59, 16800]) (.skip)))))
  (.reg [⟨some 60, .bin .add (.t 46) (.k (.int .i64 1)), none⟩,
    ⟨some 46, .mv (.t 60), none⟩] [2, 3, 6, 44, 45, 46] [2, 3, 16, 41, 59, 16800])))
def impl_joined.l2 : C := .seq (.reg [⟨some 79, .bin .lss (.t 78) (.t 77), none⟩] [2, 3, 6, 13, 76, 77, 78, 79] [2, 3, 16, 41, 59, 16800])
  (.seq (.cond (.t 79) (.skip) (.exit 4))
  (.seq (.block 5 (.seq (.reg [⟨some 80, .mv (.t 78), none⟩,
    ⟨some 81, .iaddr 4 (.t 76) (.t 78), none⟩,
    ⟨some 82, .load true 4 (.t 81), none⟩,
    ⟨some 15, .alloc [.int .i64 0, .int .i64 0, .nils 3, .str ⟨#[]⟩], none⟩,
    ⟨some 14, .mv (.t 80), none⟩,
    ⟨none, .store 4 (.t 15) (.t 82), none⟩] [2, 3, 6, 13, 14, 15, 76, 77, 78] [2, 3, 15, 16, 41, 59, 16800])
  (.seq (.reg [⟨some 83, .load true 7 (.t 2), none⟩,
    ⟨some 84, .faddr 0 (.t 15), none⟩,
    ⟨some 85, .load false 1 (.t 84), none⟩,
    ⟨some 86, .call 20 [.t 83, .t 85] [] [], none⟩,
    ⟨some 87, .mv (.t 86), none⟩,
    ⟨some 88, .load true 7 (.t 2), some (87, true)⟩,
    ⟨some 89, .load true 7 (.t 3), some (87, true)⟩,
    ⟨some 90, .faddr 0 (.t 15), some (87, true)⟩,
    ⟨some 91, .load false 1 (.t 90), some (87, true)⟩,
    ⟨some 92, .call 23 [.t 88, .t 89, .t 91] [] [], some (87, true)⟩,
    ⟨some 93, .not (.t 92), some (87, true)⟩,
    ⟨some 94, .pick (.t 87) (.t 93) (.k (.bool false)), none⟩,
    ⟨some 95, .mv (.t 94), none⟩,
    ⟨some 96, .load true 7 (.t 3), some (95, false)⟩,
    ⟨some 97, .faddr 0 (.t 15), some (95, false)⟩,
    ⟨some 98, .load false 1 (.t 97), some (95, false)⟩,
    ⟨some 99, .call 20 [.t 96, .t 98] [] [], some (95, false)⟩,
    ⟨some 100, .mv (.t 99), some (95, false)⟩,
    ⟨some 101, .load true 7 (.t 3), some (100, true)⟩,
    ⟨some 102, .load true 7 (.t 2), some (100, true)⟩,
    ⟨some 103, .faddr 0 (.t 15), some (100, true)⟩,
    ⟨some 104, .load false 1 (.t 103), some (100, true)⟩,
    ⟨some 105, .call 23 [.t 101, .t 102, .t 104] [] [], some (100, true)⟩,
    ⟨some 106, .not (.t 105), some (100, true)⟩,
    ⟨some 107, .pick (.t 100) (.t 106) (.k (.bool false)), some (95, false)⟩,
    ⟨some 108, .pick (.t 95) (.k (.bool true)) (.t 107), none⟩] [2, 3, 6, 13, 14, 76, 77, 78, 108] [2, 3, 16, 41, 59, 16800])
  (.cond (.t 108) (.seq (.reg [⟨some 109, .mv (.t 6), none⟩,
    ⟨some 110, .mv (.t 14), none⟩,
    ⟨some 111, .mv (.t 13), none⟩,
    ⟨some 112, .iaddr 4 (.t 109) (.t 110), none⟩,
    ⟨some 113, .faddr 1 (.t 112), none⟩,
    ⟨none, .store 1 (.t 113) (.t 111), none⟩] [2, 3, 6, 13, 76, 77, 78] [2, 3, 16, 41, 59, 16800])
  (.reg [⟨some 114, .mv (.t 13), none⟩,
    ⟨some 115, .bin .add (.t 114) (.k (.int .i64 1)), none⟩,
    ⟨some 13, .mv (.t 115), none⟩] [2, 3, 6, 13, 76, 77, 78] [2, 3, 16, 41, 59, 16800])) (.skip)))))
  (.reg [⟨some 116, .bin .add (.t 78) (.k (.int .i64 1)), none⟩,
    ⟨some 78, .mv (.t 116), none⟩] [2, 3, 6, 13, 76, 77, 78] [2, 3, 16, 41, 59, 16800])))
def impl_joined.b : C := .seq (.reg [⟨some 2, .box (.t 0), none⟩,
    ⟨some 3, .box (.t 1), none⟩,
    ⟨some 4, .nil 4, none⟩,
    ⟨some 5, .mv (.k (.int .i64 0)), none⟩] [2, 3] [2, 3])
  (.seq (.reg [⟨some 16, .bslice 4 0 [.int .i64 0, .int .i64 0, .nils 3, .str ⟨#[]⟩] [], none⟩,
    ⟨some 6, .mv (.t 16), none⟩] [2, 3, 6] [2, 3, 16, 41, 59, 16800])
  (.seq (.seq (.reg [⟨some 17, .faddr 5 (.t 2), none⟩,
    ⟨some 18, .load false 1 (.t 17), none⟩,
    ⟨some 19, .len (.t 18), none⟩,
    ⟨some 20, .mv (.k (.int .i64 0)), none⟩] [2, 3, 6, 18, 19, 20] [2, 3, 16, 41, 59, 16800])
  (.block 0 (.loop impl_joined.l0)))
  (.seq (.seq (.reg [⟨some 43, .faddr 5 (.t 3), none⟩,
    ⟨some 44, .load false 1 (.t 43), none⟩,
    ⟨some 45, .len (.t 44), none⟩,
    ⟨some 46, .mv (.k (.int .i64 0)), none⟩] [2, 3, 6, 44, 45, 46] [2, 3, 16, 41, 59, 16800])
  (.block 2 (.loop impl_joined.l1)))
  (.seq (.reg [⟨some 61, .faddr 6 (.t 2), none⟩,
    ⟨some 62, .load false 1 (.t 61), none⟩,
    ⟨some 63, .faddr 6 (.t 3), none⟩,
    ⟨some 64, .load false 1 (.t 63), none⟩,
    ⟨some 65, .call 44 [.t 62, .t 64] [] [], none⟩,
    ⟨some 12, .alloc [.nils 1], none⟩,
    ⟨none, .store 1 (.t 12) (.t 65), none⟩] [2, 3, 6, 12] [2, 3, 12, 16, 41, 59, 16800])
  (.seq (.shut [12] (.reg [⟨some 66, .mv (.t 6), none⟩,
    ⟨some 67, .mkfn 454 [.t 12], none⟩,
    ⟨some 68, .call 453 [.t 66, .t 67] [0] [(0, 16800)], none⟩,
    ⟨some 6, .mv (.t 68), none⟩] [2, 3, 6] [2, 3, 16, 41, 59, 16800]))
  (.seq (.reg [⟨some 69, .mv (.t 6), none⟩,
    ⟨some 70, .call 455 [.t 69, .fn 456] [0] [], none⟩] [2, 3, 6] [2, 3, 16, 41, 59, 16800])
  (.seq (.reg [⟨some 71, .faddr 4 (.t 2), none⟩,
    ⟨some 72, .load false 1 (.t 71), none⟩,
    ⟨some 73, .faddr 4 (.t 3), none⟩,
    ⟨some 74, .load false 1 (.t 73), none⟩,
    ⟨some 75, .max (.t 72) (.t 74), none⟩,
    ⟨some 13, .mv (.t 75), none⟩] [2, 3, 6, 13] [2, 3, 16, 41, 59, 16800])
  (.seq (.seq (.reg [⟨some 76, .mv (.t 6), none⟩,
    ⟨some 77, .len (.t 76), none⟩,
    ⟨some 78, .mv (.k (.int .i64 0)), none⟩] [2, 3, 6, 13, 76, 77, 78] [2, 3, 16, 41, 59, 16800])
  (.block 4 (.loop impl_joined.l2)))
  (.seq (.reg [⟨some 117, .mv (.t 6), none⟩,
    ⟨some 118, .call 455 [.t 117, .fn 458] [0] [], none⟩] [6, 13] [16, 41, 59, 16800])
  (.seq (.reg [⟨some 119, .mv (.t 6), none⟩,
    ⟨some 120, .mv (.t 13), none⟩,
    ⟨some 4, .mv (.t 119), none⟩,
    ⟨some 5, .mv (.t 120), none⟩] [4, 5] [4, 16, 41, 59, 16800])
  (.ret)))))))))))
def impl_joined.m : Fn := { np := 2, body := impl_joined.b, res := [.tmp 4, .tmp 5] }
def impl_joined.k (M : Nat → Option Body) : Prop := M 437 = some (.code impl_joined.m) ∧ impl_Holds.k M ∧ impl_KeepsUid.k M ∧ impl_JoinGone.k M ∧ impl_MailAt.k M ∧ impl_copyMail.k M ∧ impl_JoinMail.k M ∧ slices_DeleteFunc_impl_Mail_impl_Mail.k M ∧ impl_joined_1.k M ∧ slices_SortStableFunc_impl_Mail_impl_Mail.k M ∧ impl_joined_2.k M ∧ impl_joined_3.k M
def impl_JoinBox.b : C := .seq (.reg [⟨some 2, .box (.t 0), none⟩,
    ⟨some 3, .box (.t 1), none⟩,
    ⟨some 4, .alloc [.int .i64 0, .str ⟨#[]⟩, .int .i64 0, .int .i64 0, .int .i64 0, .nils 4, .nils 1], none⟩] [2, 3, 4] [2, 3, 4, 11205, 11206, 12300, 15400])
  (.seq (.seq (.reg [⟨some 6, .faddr 0 (.t 2), none⟩,
    ⟨some 7, .load false 1 (.t 6), none⟩,
    ⟨some 8, .faddr 0 (.t 3), none⟩,
    ⟨some 9, .load false 1 (.t 8), none⟩,
    ⟨some 10, .bin .neq (.t 7) (.t 9), none⟩] [2, 3, 4, 10] [2, 3, 4, 11205, 11206, 12300, 15400])
  (.cond (.t 10) (.seq (.reg [⟨some 11, .load true 7 (.t 2), none⟩,
    ⟨some 12, .call 155 [.t 11] [] [(5, 11205), (6, 11206)], none⟩,
    ⟨none, .store 7 (.t 4) (.t 12), none⟩] [4] [4, 11205, 11206, 12300, 15400])
  (.ret)) (.skip)))
  (.seq (.regd [⟨some 13, .faddr 0 (.t 2), none⟩,
    ⟨some 14, .load false 1 (.t 13), none⟩,
    ⟨some 15, .faddr 1 (.t 2), none⟩,
    ⟨some 16, .load false 1 (.t 15), none⟩,
    ⟨some 17, .faddr 2 (.t 2), none⟩,
    ⟨some 18, .load true 2 (.t 17), none⟩,
    ⟨some 19, .faddr 6 (.t 2), none⟩,
    ⟨some 20, .load false 1 (.t 19), none⟩,
    ⟨some 21, .faddr 6 (.t 3), none⟩,
    ⟨some 22, .load false 1 (.t 21), none⟩,
    ⟨some 23, .call 44 [.t 20, .t 22] [] [(0, 12300)], none⟩,
    ⟨some 24, .build [.int .i64 0, .str ⟨#[]⟩, .int .i64 0, .int .i64 0, .int .i64 0, .nils 4, .nils 1] [(0, 1, .t 14), (1, 1, .t 16), (2, 2, .t 18), (6, 1, .t 23)], none⟩,
    ⟨some 5, .alloc [.int .i64 0, .str ⟨#[]⟩, .int .i64 0, .int .i64 0, .int .i64 0, .nils 4, .nils 1], none⟩,
    ⟨none, .store 7 (.t 5) (.t 24), none⟩] [[], [0], [], [2], [], [4], [], [6], [], [8], [6, 7, 8, 9], List.range 11, [], List.range 13] [2, 3, 4, 5] [2, 3, 4, 5, 11205, 11206, 12300, 15400])
  (.seq (.seq (.reg [⟨some 25, .faddr 2 (.t 3), none⟩,
    ⟨some 26, .load true 2 (.t 25), none⟩,
    ⟨some 27, .faddr 2 (.t 2), none⟩,
    ⟨some 28, .load true 2 (.t 27), none⟩,
    ⟨some 29, .call 275 [.t 26, .t 28] [] [], none⟩,
    ⟨some 30, .mv (.t 29), none⟩,
    ⟨some 31, .faddr 2 (.t 2), some (30, false)⟩,
    ⟨some 32, .load true 2 (.t 31), some (30, false)⟩,
    ⟨some 33, .faddr 2 (.t 3), some (30, false)⟩,
    ⟨some 34, .load true 2 (.t 33), some (30, false)⟩,
    ⟨some 35, .call 275 [.t 32, .t 34] [] [], some (30, false)⟩,
    ⟨some 36, .not (.t 35), some (30, false)⟩,
    ⟨some 37, .mv (.t 36), some (30, false)⟩,
    ⟨some 38, .faddr 1 (.t 3), some (37, true)⟩,
    ⟨some 39, .load false 1 (.t 38), some (37, true)⟩,
    ⟨some 40, .faddr 1 (.t 2), some (37, true)⟩,
    ⟨some 41, .load false 1 (.t 40), some (37, true)⟩,
    ⟨some 42, .bin .gtr (.t 39) (.t 41), some (37, true)⟩,
    ⟨some 43, .pick (.t 37) (.t 42) (.k (.bool false)), some (30, false)⟩,
    ⟨some 44, .pick (.t 30) (.k (.bool true)) (.t 43), none⟩] [2, 3, 4, 5, 44] [2, 3, 4, 5, 11205, 11206, 12300, 15400])
  (.cond (.t 44) (.seq (.reg [⟨some 45, .faddr 1 (.t 3), none⟩,
    ⟨some 46, .load false 1 (.t 45), none⟩,
    ⟨some 47, .faddr 1 (.t 5), none⟩,
    ⟨none, .store 1 (.t 47) (.t 46), none⟩] [2, 3, 4, 5] [2, 3, 4, 5, 11205, 11206, 12300, 15400])
  (.reg [⟨some 48, .faddr 2 (.t 3), none⟩,
    ⟨some 49, .load true 2 (.t 48), none⟩,
    ⟨some 50, .faddr 2 (.t 5), none⟩,
    ⟨none, .store 2 (.t 50) (.t 49), none⟩] [2, 3, 4, 5] [2, 3, 4, 5, 11205, 11206, 12300, 15400])) (.skip)))
  (.seq (.reg [⟨some 52, .load true 7 (.t 2), none⟩,
    ⟨some 53, .load true 7 (.t 3), none⟩,
    ⟨some 54, .call 437 [.t 52, .t 53] [] [(0, 15400)], none⟩,
    ⟨some 51, .mv (.t 54), none⟩,
    ⟨some 55, .ext 0 (.t 51), none⟩,
    ⟨some 56, .ext 1 (.t 51), none⟩,
    ⟨some 57, .faddr 5 (.t 5), none⟩,
    ⟨none, .store 1 (.t 57) (.t 55), none⟩,
    ⟨some 58, .faddr 4 (.t 5), none⟩,
    ⟨none, .store 1 (.t 58) (.t 56), none⟩] [4, 5] [4, 5, 11205, 11206, 12300, 15400])
  (.seq (.reg [⟨some 59, .load true 7 (.t 5), none⟩,
    ⟨none, .store 7 (.t 4) (.t 59), none⟩] [4] [4, 11205, 11206, 12300, 15400])
  (.ret))))))
def impl_JoinBox.m : Fn := { np := 2, body := impl_JoinBox.b, res := [.cell 4 true 7] }
def impl_JoinBox.k (M : Nat → Option Body) : Prop := M 401 = some (.code impl_JoinBox.m) ∧ impl_JoinGone.k M ∧ impl_copyBox.k M ∧ impl_Later.k M ∧ impl_joined.k M
def impl_JoinMails.b : C := .seq (.reg [⟨some 2, .box (.t 0), none⟩,
    ⟨some 3, .box (.t 1), none⟩,
    ⟨some 4, .nil 4, none⟩] [2, 3] [2, 3])
  (.seq (.reg [⟨some 8, .load true 7 (.t 2), none⟩,
    ⟨some 9, .load true 7 (.t 3), none⟩,
    ⟨some 10, .call 437 [.t 8, .t 9] [] [(0, 11000)], none⟩,
    ⟨some 7, .mv (.t 10), none⟩,
    ⟨some 11, .ext 0 (.t 7), none⟩,
    ⟨some 12, .ext 1 (.t 7), none⟩,
    ⟨some 5, .mv (.t 11), none⟩,
    ⟨some 6, .mv (.t 12), none⟩] [5] [11000])
  (.seq (.reg [⟨some 13, .mv (.t 5), none⟩,
    ⟨some 4, .mv (.t 13), none⟩] [4] [4, 11000])
  (.ret)))
def impl_JoinMails.m : Fn := { np := 2, body := impl_JoinMails.b, res := [.tmp 4] }
def impl_JoinMails.k (M : Nat → Option Body) : Prop := M 415 = some (.code impl_JoinMails.m) ∧ impl_joined.k M
end Mx

namespace Mx
open Go
def spec_l08Next.b : C := .seq (.reg [⟨some 2, .box (.t 0), none⟩,
    ⟨some 3, .box (.t 1), none⟩,
    ⟨some 4, .mv (.k (.int .i64 0)), none⟩] [2, 3] [2, 3])
  (.seq (.seq (.reg [⟨some 5, .faddr 4 (.t 2), none⟩,
    ⟨some 6, .load false 1 (.t 5), none⟩,
    ⟨some 7, .faddr 4 (.t 3), none⟩,
    ⟨some 8, .load false 1 (.t 7), none⟩,
    ⟨some 9, .bin .gtr (.t 6) (.t 8), none⟩] [2, 3, 9] [2, 3])
  (.cond (.t 9) (.seq (.reg [⟨some 10, .faddr 4 (.t 2), none⟩,
    ⟨some 11, .load false 1 (.t 10), none⟩,
    ⟨some 4, .mv (.t 11), none⟩] [4] [])
  (.ret)) (.skip)))
  (.seq (.reg [⟨some 12, .faddr 4 (.t 3), none⟩,
    ⟨some 13, .load false 1 (.t 12), none⟩,
    ⟨some 4, .mv (.t 13), none⟩] [4] [])
  (.ret)))
def spec_l08Next.m : Fn := { np := 2, body := spec_l08Next.b, res := [.tmp 4] }
def spec_l08Next.k (M : Nat → Option Body) : Prop := M 459 = some (.code spec_l08Next.m)
def spec_l08Gids.l0 : C := .seq (.seq (.reg [⟨some 9, .mv (.t 6), none⟩,
    ⟨some 10, .faddr 5 (.t 2), none⟩,
    ⟨some 11, .load false 1 (.t 10), none⟩,
    ⟨some 12, .len (.t 11), none⟩,
    ⟨some 13, .bin .lss (.t 9) (.t 12), none⟩] [2, 3, 5, 6, 13] [2, 3, 8])
  (.cond (.t 13) (.skip) (.exit 0)))
  (.seq (.block 1 (.seq (.reg [⟨some 16, .mv (.t 5), none⟩,
    ⟨some 17, .faddr 5 (.t 2), none⟩,
    ⟨some 18, .load false 1 (.t 17), none⟩,
    ⟨some 19, .mv (.t 6), none⟩,
    ⟨some 20, .iaddr 4 (.t 18) (.t 19), none⟩,
    ⟨some 21, .faddr 0 (.t 20), none⟩,
    ⟨some 22, .load false 1 (.t 21), none⟩,
    ⟨some 23, .call 132 [.t 16, .t 22] [] [], none⟩,
    ⟨some 24, .not (.t 23), none⟩] [2, 3, 5, 6, 24] [2, 3, 8])
  (.cond (.t 24) (.reg [⟨some 25, .mv (.t 5), none⟩,
    ⟨some 26, .faddr 5 (.t 2), none⟩,
    ⟨some 27, .load false 1 (.t 26), none⟩,
    ⟨some 28, .mv (.t 6), none⟩,
    ⟨some 29, .iaddr 4 (.t 27) (.t 28), none⟩,
    ⟨some 30, .faddr 0 (.t 29), none⟩,
    ⟨some 31, .load false 1 (.t 30), none⟩,
    ⟨some 32, .call 133 [.t 25, .t 31] [] [(0, 8)], none⟩,
    ⟨some 5, .mv (.t 32), none⟩] [2, 3, 5, 6] [2, 3, 8]) (.skip))))
  (.reg [⟨some 14, .mv (.t 6), none⟩,
    ⟨some 15, .bin .add (.t 14) (.k (.int .i64 1)), none⟩,
    ⟨some 6, .mv (.t 15), none⟩] [2, 3, 5, 6] [2, 3, 8]))
def spec_l08Gids.l1 : C := .seq (.seq (.reg [⟨some 33, .mv (.t 7), none⟩,
    ⟨some 34, .faddr 5 (.t 3), none⟩,
    ⟨some 35, .load false 1 (.t 34), none⟩,
    ⟨some 36, .len (.t 35), none⟩,
    ⟨some 37, .bin .lss (.t 33) (.t 36), none⟩] [3, 5, 7, 37] [3, 8])
  (.cond (.t 37) (.skip) (.exit 2)))
  (.seq (.block 3 (.seq (.reg [⟨some 40, .mv (.t 5), none⟩,
    ⟨some 41, .faddr 5 (.t 3), none⟩,
    ⟨some 42, .load false 1 (.t 41), none⟩,
    ⟨some 43, .mv (.t 7), none⟩,
    ⟨some 44, .iaddr 4 (.t 42) (.t 43), none⟩,
    ⟨some 45, .faddr 0 (.t 44), none⟩,
    ⟨some 46, .load false 1 (.t 45), none⟩,
    ⟨some 47, .call 132 [.t 40, .t 46] [] [], none⟩,
    ⟨some 48, .not (.t 47), none⟩] [3, 5, 7, 48] [3, 8])
  (.cond (.t 48) (.reg [⟨some 49, .mv (.t 5), none⟩,
    ⟨some 50, .faddr 5 (.t 3), none⟩,
    ⟨some 51, .load false 1 (.t 50), none⟩,
    ⟨some 52, .mv (.t 7), none⟩,
    ⟨some 53, .iaddr 4 (.t 51) (.t 52), none⟩,
    ⟨some 54, .faddr 0 (.t 53), none⟩,
    ⟨some 55, .load false 1 (.t 54), none⟩,
    ⟨some 56, .call 133 [.t 49, .t 55] [] [(0, 8)], none⟩,
    ⟨some 5, .mv (.t 56), none⟩] [3, 5, 7] [3, 8]) (.skip))))
  (.reg [⟨some 38, .mv (.t 7), none⟩,
    ⟨some 39, .bin .add (.t 38) (.k (.int .i64 1)), none⟩,
    ⟨some 7, .mv (.t 39), none⟩] [3, 5, 7] [3, 8]))
def spec_l08Gids.b : C := .seq (.reg [⟨some 2, .box (.t 0), none⟩,
    ⟨some 3, .box (.t 1), none⟩,
    ⟨some 4, .nil 1, none⟩] [2, 3] [2, 3])
  (.seq (.reg [⟨some 8, .bslice 1 0 [.int .i64 0] [], none⟩,
    ⟨some 5, .mv (.t 8), none⟩] [2, 3, 5] [2, 3, 8])
  (.seq (.seq (.reg [⟨some 6, .mv (.k (.int .i64 0)), none⟩] [2, 3, 5, 6] [2, 3, 8])
  (.block 0 (.loop spec_l08Gids.l0)))
  (.seq (.seq (.reg [⟨some 7, .mv (.k (.int .i64 0)), none⟩] [3, 5, 7] [3, 8])
  (.block 2 (.loop spec_l08Gids.l1)))
  (.seq (.reg [⟨some 57, .mv (.t 5), none⟩,
    ⟨some 4, .mv (.t 57), none⟩] [4] [4, 8])
  (.ret)))))
def spec_l08Gids.m : Fn := { np := 2, body := spec_l08Gids.b, res := [.tmp 4] }
def spec_l08Gids.k (M : Nat → Option Body) : Prop := M 460 = some (.code spec_l08Gids.m) ∧ spec_l06In.k M ∧ spec_l06Put.k M
def spec_l08Put.l0 : C := .seq (.seq (.reg [⟨some 9, .mv (.t 6), none⟩,
    ⟨some 10, .mv (.t 0), none⟩,
    ⟨some 11, .len (.t 10), none⟩,
    ⟨some 12, .bin .lss (.t 9) (.t 11), none⟩] [0, 3, 5, 6, 12] [3, 8, 29, 33, 54])
  (.cond (.t 12) (.skip) (.exit 0)))
  (.seq (.block 1 (.seq (.regd [⟨some 15, .mv (.t 0), none⟩,
    ⟨some 16, .mv (.t 6), none⟩,
    ⟨some 17, .iaddr 4 (.t 15) (.t 16), none⟩,
    ⟨some 18, .faddr 1 (.t 17), none⟩,
    ⟨some 19, .load false 1 (.t 18), none⟩,
    ⟨some 20, .faddr 1 (.t 3), none⟩,
    ⟨some 21, .load false 1 (.t 20), none⟩,
    ⟨some 22, .bin .leq (.t 19) (.t 21), none⟩] [[], [], [0, 1], [0, 1, 2], List.range 4, [], [5], List.range 7] [0, 3, 5, 6, 22] [3, 8, 29, 33, 54])
  (.cond (.t 22) (.reg [⟨some 23, .mv (.t 5), none⟩,
    ⟨some 24, .mv (.t 0), none⟩,
    ⟨some 25, .mv (.t 6), none⟩,
    ⟨some 26, .iaddr 4 (.t 24) (.t 25), none⟩,
    ⟨some 27, .load true 4 (.t 26), none⟩,
    ⟨some 28, .bslice 4 1 [.int .i64 0, .int .i64 0, .nils 3, .str ⟨#[]⟩] [(0, .t 27)], none⟩,
    ⟨some 29, .app 4 56 (.t 23) (.t 28), none⟩,
    ⟨some 5, .mv (.t 29), none⟩] [0, 3, 5, 6] [3, 8, 29, 33, 54]) (.skip))))
  (.reg [⟨some 13, .mv (.t 6), none⟩,
    ⟨some 14, .bin .add (.t 13) (.k (.int .i64 1)), none⟩,
    ⟨some 6, .mv (.t 14), none⟩] [0, 3, 5, 6] [3, 8, 29, 33, 54]))
def spec_l08Put.l1 : C := .seq (.seq (.reg [⟨some 34, .mv (.t 7), none⟩,
    ⟨some 35, .mv (.t 0), none⟩,
    ⟨some 36, .len (.t 35), none⟩,
    ⟨some 37, .bin .lss (.t 34) (.t 36), none⟩] [0, 3, 5, 7, 37] [3, 8, 29, 33, 54])
  (.cond (.t 37) (.skip) (.exit 2)))
  (.seq (.block 3 (.seq (.regd [⟨some 40, .mv (.t 0), none⟩,
    ⟨some 41, .mv (.t 7), none⟩,
    ⟨some 42, .iaddr 4 (.t 40) (.t 41), none⟩,
    ⟨some 43, .faddr 1 (.t 42), none⟩,
    ⟨some 44, .load false 1 (.t 43), none⟩,
    ⟨some 45, .faddr 1 (.t 3), none⟩,
    ⟨some 46, .load false 1 (.t 45), none⟩,
    ⟨some 47, .bin .gtr (.t 44) (.t 46), none⟩] [[], [], [0, 1], [0, 1, 2], List.range 4, [], [5], List.range 7] [0, 3, 5, 7, 47] [3, 8, 29, 33, 54])
  (.cond (.t 47) (.reg [⟨some 48, .mv (.t 5), none⟩,
    ⟨some 49, .mv (.t 0), none⟩,
    ⟨some 50, .mv (.t 7), none⟩,
    ⟨some 51, .iaddr 4 (.t 49) (.t 50), none⟩,
    ⟨some 52, .load true 4 (.t 51), none⟩,
    ⟨some 53, .bslice 4 1 [.int .i64 0, .int .i64 0, .nils 3, .str ⟨#[]⟩] [(0, .t 52)], none⟩,
    ⟨some 54, .app 4 56 (.t 48) (.t 53), none⟩,
    ⟨some 5, .mv (.t 54), none⟩] [0, 3, 5, 7] [3, 8, 29, 33, 54]) (.skip))))
  (.reg [⟨some 38, .mv (.t 7), none⟩,
    ⟨some 39, .bin .add (.t 38) (.k (.int .i64 1)), none⟩,
    ⟨some 7, .mv (.t 39), none⟩] [0, 3, 5, 7] [3, 8, 29, 33, 54]))
def spec_l08Put.b : C := .seq (.reg [⟨some 3, .box (.t 1), none⟩,
    ⟨some 4, .nil 4, none⟩] [0, 3] [3])
  (.seq (.reg [⟨some 8, .bslice 4 0 [.int .i64 0, .int .i64 0, .nils 3, .str ⟨#[]⟩] [], none⟩,
    ⟨some 5, .mv (.t 8), none⟩] [0, 3, 5] [3, 8, 29, 33, 54])
  (.seq (.seq (.reg [⟨some 6, .mv (.k (.int .i64 0)), none⟩] [0, 3, 5, 6] [3, 8, 29, 33, 54])
  (.block 0 (.loop spec_l08Put.l0)))
  (.seq (.reg [⟨some 30, .mv (.t 5), none⟩,
    ⟨some 31, .load true 4 (.t 3), none⟩,
    ⟨some 32, .bslice 4 1 [.int .i64 0, .int .i64 0, .nils 3, .str ⟨#[]⟩] [(0, .t 31)], none⟩,
    ⟨some 33, .app 4 56 (.t 30) (.t 32), none⟩,
    ⟨some 5, .mv (.t 33), none⟩] [0, 3, 5] [3, 8, 29, 33, 54])
  (.seq (.seq (.reg [⟨some 7, .mv (.k (.int .i64 0)), none⟩] [0, 3, 5, 7] [3, 8, 29, 33, 54])
  (.block 2 (.loop spec_l08Put.l1)))
  (.seq (.reg [⟨some 55, .mv (.t 5), none⟩,
    ⟨some 4, .mv (.t 55), none⟩] [4] [4, 8, 29, 33, 54])
  (.ret))))))
def spec_l08Put.m : Fn := { np := 2, body := spec_l08Put.b, res := [.tmp 4] }
def spec_l08Put.k (M : Nat → Option Body) : Prop := M 462 = some (.code spec_l08Put.m)
def spec_l08Join.l0 : C := .seq (.seq (.reg [⟨some 21, .mv (.t 9), none⟩,
    ⟨some 22, .mv (.t 8), none⟩,
    ⟨some 23, .len (.t 22), none⟩,
    ⟨some 24, .bin .lss (.t 21) (.t 23), none⟩] [2, 3, 6, 7, 8, 9, 24] [2, 3, 17])
  (.cond (.t 24) (.skip) (.exit 0)))
  (.seq (.block 1 (.seq (.reg [⟨some 27, .mv (.t 8), none⟩,
    ⟨some 28, .mv (.t 9), none⟩,
    ⟨some 29, .iaddr 1 (.t 27) (.t 28), none⟩,
    ⟨some 30, .load false 1 (.t 29), none⟩,
    ⟨some 10, .mv (.t 30), none⟩] [2, 3, 6, 7, 8, 9, 10] [2, 3, 17])
  (.seq (.seq (.reg [⟨some 31, .faddr 6 (.t 2), none⟩,
    ⟨some 32, .load false 1 (.t 31), none⟩,
    ⟨some 33, .mv (.t 10), none⟩,
    ⟨some 34, .call 132 [.t 32, .t 33] [] [], none⟩,
    ⟨some 35, .mv (.t 34), none⟩,
    ⟨some 36, .faddr 6 (.t 3), some (35, false)⟩,
    ⟨some 37, .load false 1 (.t 36), some (35, false)⟩,
    ⟨some 38, .mv (.t 10), some (35, false)⟩,
    ⟨some 39, .call 132 [.t 37, .t 38] [] [], some (35, false)⟩,
    ⟨some 40, .pick (.t 35) (.k (.bool true)) (.t 39), none⟩] [2, 3, 6, 7, 8, 9, 10, 40] [2, 3, 17])
  (.cond (.t 40) (.exit 1) (.skip)))
  (.seq (.reg [⟨some 41, .load true 7 (.t 2), none⟩,
    ⟨some 42, .mv (.t 10), none⟩,
    ⟨some 43, .call 91 [.t 41, .t 42] [] [], none⟩,
    ⟨some 11, .mv (.t 43), none⟩] [2, 3, 6, 7, 8, 9, 10, 11] [2, 3, 17])
  (.seq (.reg [⟨some 44, .load true 7 (.t 3), none⟩,
    ⟨some 45, .mv (.t 10), none⟩,
    ⟨some 46, .call 91 [.t 44, .t 45] [] [], none⟩,
    ⟨some 12, .mv (.t 46), none⟩] [2, 3, 6, 7, 8, 9, 10, 11, 12] [2, 3, 17])
  (.seq (.reg [⟨some 47, .build [.int .i64 0, .int .i64 0, .nils 3, .str ⟨#[]⟩] [], none⟩,
    ⟨some 13, .alloc [.int .i64 0, .int .i64 0, .nils 3, .str ⟨#[]⟩], none⟩,
    ⟨none, .store 4 (.t 13) (.t 47), none⟩] [2, 3, 6, 7, 8, 9, 10, 11, 12, 13] [2, 3, 13, 17])
  (.seq (.block 2 (.seq (.reg [⟨some 55, .mv (.t 11), none⟩,
    ⟨some 56, .bin .geq (.t 55) (.k (.int .i64 0)), none⟩,
    ⟨some 57, .mv (.t 56), none⟩,
    ⟨some 58, .mv (.t 12), some (57, true)⟩,
    ⟨some 59, .bin .geq (.t 58) (.k (.int .i64 0)), some (57, true)⟩,
    ⟨some 60, .pick (.t 57) (.t 59) (.k (.bool false)), none⟩,
    ⟨some 54, .mv (.t 60), none⟩] [2, 3, 6, 7, 8, 9, 10, 11, 12, 13, 54] [2, 3, 13, 17])
  (.cond (.t 54) (.regd [⟨some 61, .faddr 5 (.t 2), none⟩,
    ⟨some 62, .load false 1 (.t 61), none⟩,
    ⟨some 63, .mv (.t 11), none⟩,
    ⟨some 64, .iaddr 4 (.t 62) (.t 63), none⟩,
    ⟨some 65, .load true 4 (.t 64), none⟩,
    ⟨some 66, .faddr 5 (.t 3), none⟩,
    ⟨some 67, .load false 1 (.t 66), none⟩,
    ⟨some 68, .mv (.t 12), none⟩,
    ⟨some 69, .iaddr 4 (.t 67) (.t 68), none⟩,
    ⟨some 70, .load true 4 (.t 69), none⟩,
    ⟨some 71, .call 461 [.t 65, .t 70] [] [], none⟩,
    ⟨none, .store 4 (.t 13) (.t 71), none⟩] [[], [0], [], [0, 1, 2], List.range 4, [], [5], [], [5, 6, 7], [5, 6, 7, 8], List.range 10, List.range 11] [2, 3, 6, 7, 8, 9, 10, 11, 12, 13] [2, 3, 13, 17]) (.seq (.reg [⟨some 73, .mv (.t 11), none⟩,
    ⟨some 74, .bin .geq (.t 73) (.k (.int .i64 0)), none⟩,
    ⟨some 72, .mv (.t 74), none⟩] [2, 3, 6, 7, 8, 9, 10, 11, 12, 13, 72] [2, 3, 13, 17])
  (.cond (.t 72) (.reg [⟨some 75, .faddr 5 (.t 2), none⟩,
    ⟨some 76, .load false 1 (.t 75), none⟩,
    ⟨some 77, .mv (.t 11), none⟩,
    ⟨some 78, .iaddr 4 (.t 76) (.t 77), none⟩,
    ⟨some 79, .load true 4 (.t 78), none⟩,
    ⟨some 80, .call 238 [.t 79] [] [], none⟩,
    ⟨none, .store 4 (.t 13) (.t 80), none⟩] [2, 3, 6, 7, 8, 9, 10, 11, 12, 13] [2, 3, 13, 17]) (.reg [⟨some 48, .faddr 5 (.t 3), none⟩,
    ⟨some 49, .load false 1 (.t 48), none⟩,
    ⟨some 50, .mv (.t 12), none⟩,
    ⟨some 51, .iaddr 4 (.t 49) (.t 50), none⟩,
    ⟨some 52, .load true 4 (.t 51), none⟩,
    ⟨some 53, .call 238 [.t 52] [] [], none⟩,
    ⟨none, .store 4 (.t 13) (.t 53), none⟩] [2, 3, 6, 7, 8, 9, 10, 11, 12, 13] [2, 3, 13, 17]))))))
  (.seq (.seq (.reg [⟨some 81, .mv (.t 11), none⟩,
    ⟨some 82, .bin .geq (.t 81) (.k (.int .i64 0)), none⟩,
    ⟨some 83, .mv (.t 82), none⟩,
    ⟨some 84, .load true 7 (.t 2), some (83, true)⟩,
    ⟨some 85, .load true 7 (.t 3), some (83, true)⟩,
    ⟨some 86, .mv (.t 10), some (83, true)⟩,
    ⟨some 87, .call 22 [.t 84, .t 85, .t 86] [] [], some (83, true)⟩,
    ⟨some 88, .not (.t 87), some (83, true)⟩,
    ⟨some 89, .pick (.t 83) (.t 88) (.k (.bool false)), none⟩,
    ⟨some 90, .mv (.t 89), none⟩,
    ⟨some 91, .mv (.t 12), some (90, false)⟩,
    ⟨some 92, .bin .geq (.t 91) (.k (.int .i64 0)), some (90, false)⟩,
    ⟨some 93, .mv (.t 92), some (90, false)⟩,
    ⟨some 94, .load true 7 (.t 3), some (93, true)⟩,
    ⟨some 95, .load true 7 (.t 2), some (93, true)⟩,
    ⟨some 96, .mv (.t 10), some (93, true)⟩,
    ⟨some 97, .call 22 [.t 94, .t 95, .t 96] [] [], some (93, true)⟩,
    ⟨some 98, .not (.t 97), some (93, true)⟩,
    ⟨some 99, .pick (.t 93) (.t 98) (.k (.bool false)), some (90, false)⟩,
    ⟨some 100, .pick (.t 90) (.k (.bool true)) (.t 99), none⟩] [2, 3, 6, 7, 8, 9, 13, 100] [2, 3, 13, 17])
  (.cond (.t 100) (.seq (.reg [⟨some 101, .mv (.t 6), none⟩,
    ⟨some 102, .faddr 1 (.t 13), none⟩,
    ⟨none, .store 1 (.t 102) (.t 101), none⟩] [2, 3, 6, 7, 8, 9, 13] [2, 3, 13, 17])
  (.reg [⟨some 103, .mv (.t 6), none⟩,
    ⟨some 104, .bin .add (.t 103) (.k (.int .i64 1)), none⟩,
    ⟨some 6, .mv (.t 104), none⟩] [2, 3, 6, 7, 8, 9, 13] [2, 3, 13, 17])) (.skip)))
  (.shut [17] (.reg [⟨some 105, .mv (.t 7), none⟩,
    ⟨some 106, .load true 4 (.t 13), none⟩,
    ⟨some 107, .call 462 [.t 105, .t 106] [] [(0, 17)], none⟩,
    ⟨some 7, .mv (.t 107), none⟩] [2, 3, 6, 7, 8, 9] [2, 3, 17]))))))))))
  (.reg [⟨some 25, .mv (.t 9), none⟩,
    ⟨some 26, .bin .add (.t 25) (.k (.int .i64 1)), none⟩,
    ⟨some 9, .mv (.t 26), none⟩] [2, 3, 6, 7, 8, 9] [2, 3, 17]))
def spec_l08Join.b : C := .seq (.reg [⟨some 2, .box (.t 0), none⟩,
    ⟨some 3, .box (.t 1), none⟩,
    ⟨some 4, .nil 4, none⟩,
    ⟨some 5, .mv (.k (.int .i64 0)), none⟩] [2, 3] [2, 3])
  (.seq (.reg [⟨some 14, .load true 7 (.t 2), none⟩,
    ⟨some 15, .load true 7 (.t 3), none⟩,
    ⟨some 16, .call 459 [.t 14, .t 15] [] [], none⟩,
    ⟨some 6, .mv (.t 16), none⟩] [2, 3, 6] [2, 3])
  (.seq (.reg [⟨some 17, .bslice 4 0 [.int .i64 0, .int .i64 0, .nils 3, .str ⟨#[]⟩] [], none⟩,
    ⟨some 7, .mv (.t 17), none⟩] [2, 3, 6, 7] [2, 3, 17])
  (.seq (.reg [⟨some 18, .load true 7 (.t 2), none⟩,
    ⟨some 19, .load true 7 (.t 3), none⟩,
    ⟨some 20, .call 460 [.t 18, .t 19] [] [], none⟩,
    ⟨some 8, .mv (.t 20), none⟩] [2, 3, 6, 7, 8] [2, 3, 17])
  (.seq (.seq (.reg [⟨some 9, .mv (.k (.int .i64 0)), none⟩] [2, 3, 6, 7, 8, 9] [2, 3, 17])
  (.block 0 (.loop spec_l08Join.l0)))
  (.seq (.reg [⟨some 108, .mv (.t 7), none⟩,
    ⟨some 109, .mv (.t 6), none⟩,
    ⟨some 4, .mv (.t 108), none⟩,
    ⟨some 5, .mv (.t 109), none⟩] [4, 5] [4, 17])
  (.ret))))))
def spec_l08Join.m : Fn := { np := 2, body := spec_l08Join.b, res := [.tmp 4, .tmp 5] }
def spec_l08Join.k (M : Nat → Option Body) : Prop := M 439 = some (.code spec_l08Join.m) ∧ spec_KeepsUid.k M ∧ spec_MailAt.k M ∧ spec_l06In.k M ∧ spec_l05Copy.k M ∧ spec_l08Next.k M ∧ spec_l08Gids.k M ∧ spec_JoinMail.k M ∧ spec_l08Put.k M
def spec_JoinBox.b : C := .seq (.reg [⟨some 2, .box (.t 0), none⟩,
    ⟨some 3, .box (.t 1), none⟩,
    ⟨some 4, .alloc [.int .i64 0, .str ⟨#[]⟩, .int .i64 0, .int .i64 0, .int .i64 0, .nils 4, .nils 1], none⟩] [2, 3, 4] [2, 3, 4, 11205, 11206, 12300, 15300])
  (.seq (.seq (.reg [⟨some 6, .faddr 0 (.t 2), none⟩,
    ⟨some 7, .load false 1 (.t 6), none⟩,
    ⟨some 8, .faddr 0 (.t 3), none⟩,
    ⟨some 9, .load false 1 (.t 8), none⟩,
    ⟨some 10, .bin .neq (.t 7) (.t 9), none⟩] [2, 3, 4, 10] [2, 3, 4, 11205, 11206, 12300, 15300])
  (.cond (.t 10) (.seq (.reg [⟨some 11, .load true 7 (.t 2), none⟩,
    ⟨some 12, .call 180 [.t 11] [] [(5, 11205), (6, 11206)], none⟩,
    ⟨none, .store 7 (.t 4) (.t 12), none⟩] [4] [4, 11205, 11206, 12300, 15300])
  (.ret)) (.skip)))
  (.seq (.regd [⟨some 13, .faddr 0 (.t 2), none⟩,
    ⟨some 14, .load false 1 (.t 13), none⟩,
    ⟨some 15, .faddr 1 (.t 2), none⟩,
    ⟨some 16, .load false 1 (.t 15), none⟩,
    ⟨some 17, .faddr 2 (.t 2), none⟩,
    ⟨some 18, .load true 2 (.t 17), none⟩,
    ⟨some 19, .faddr 6 (.t 2), none⟩,
    ⟨some 20, .load false 1 (.t 19), none⟩,
    ⟨some 21, .faddr 6 (.t 3), none⟩,
    ⟨some 22, .load false 1 (.t 21), none⟩,
    ⟨some 23, .call 43 [.t 20, .t 22] [] [(0, 12300)], none⟩,
    ⟨some 24, .build [.int .i64 0, .str ⟨#[]⟩, .int .i64 0, .int .i64 0, .int .i64 0, .nils 4, .nils 1] [(0, 1, .t 14), (1, 1, .t 16), (2, 2, .t 18), (6, 1, .t 23)], none⟩,
    ⟨some 5, .alloc [.int .i64 0, .str ⟨#[]⟩, .int .i64 0, .int .i64 0, .int .i64 0, .nils 4, .nils 1], none⟩,
    ⟨none, .store 7 (.t 5) (.t 24), none⟩] [[], [0], [], [2], [], [4], [], [6], [], [8], [6, 7, 8, 9], List.range 11, [], List.range 13] [2, 3, 4, 5] [2, 3, 4, 5, 11205, 11206, 12300, 15300])
  (.seq (.seq (.reg [⟨some 25, .faddr 2 (.t 3), none⟩,
    ⟨some 26, .load true 2 (.t 25), none⟩,
    ⟨some 27, .faddr 2 (.t 2), none⟩,
    ⟨some 28, .load true 2 (.t 27), none⟩,
    ⟨some 29, .call 277 [.t 26, .t 28] [] [], none⟩,
    ⟨some 30, .mv (.t 29), none⟩,
    ⟨some 31, .faddr 2 (.t 2), some (30, false)⟩,
    ⟨some 32, .load true 2 (.t 31), some (30, false)⟩,
    ⟨some 33, .faddr 2 (.t 3), some (30, false)⟩,
    ⟨some 34, .load true 2 (.t 33), some (30, false)⟩,
    ⟨some 35, .eqs false [.int, .int] (.t 32) (.t 34), some (30, false)⟩,
    ⟨some 36, .mv (.t 35), some (30, false)⟩,
    ⟨some 37, .faddr 1 (.t 3), some (36, true)⟩,
    ⟨some 38, .load false 1 (.t 37), some (36, true)⟩,
    ⟨some 39, .faddr 1 (.t 2), some (36, true)⟩,
    ⟨some 40, .load false 1 (.t 39), some (36, true)⟩,
    ⟨some 41, .bin .gtr (.t 38) (.t 40), some (36, true)⟩,
    ⟨some 42, .pick (.t 36) (.t 41) (.k (.bool false)), some (30, false)⟩,
    ⟨some 43, .pick (.t 30) (.k (.bool true)) (.t 42), none⟩] [2, 3, 4, 5, 43] [2, 3, 4, 5, 11205, 11206, 12300, 15300])
  (.cond (.t 43) (.seq (.reg [⟨some 44, .faddr 1 (.t 3), none⟩,
    ⟨some 45, .load false 1 (.t 44), none⟩,
    ⟨some 46, .faddr 1 (.t 5), none⟩,
    ⟨none, .store 1 (.t 46) (.t 45), none⟩] [2, 3, 4, 5] [2, 3, 4, 5, 11205, 11206, 12300, 15300])
  (.reg [⟨some 47, .faddr 2 (.t 3), none⟩,
    ⟨some 48, .load true 2 (.t 47), none⟩,
    ⟨some 49, .faddr 2 (.t 5), none⟩,
    ⟨none, .store 2 (.t 49) (.t 48), none⟩] [2, 3, 4, 5] [2, 3, 4, 5, 11205, 11206, 12300, 15300])) (.skip)))
  (.seq (.reg [⟨some 51, .load true 7 (.t 2), none⟩,
    ⟨some 52, .load true 7 (.t 3), none⟩,
    ⟨some 53, .call 439 [.t 51, .t 52] [] [(0, 15300)], none⟩,
    ⟨some 50, .mv (.t 53), none⟩,
    ⟨some 54, .ext 0 (.t 50), none⟩,
    ⟨some 55, .ext 1 (.t 50), none⟩,
    ⟨some 56, .faddr 5 (.t 5), none⟩,
    ⟨none, .store 1 (.t 56) (.t 54), none⟩,
    ⟨some 57, .faddr 4 (.t 5), none⟩,
    ⟨none, .store 1 (.t 57) (.t 55), none⟩] [4, 5] [4, 5, 11205, 11206, 12300, 15300])
  (.seq (.reg [⟨some 58, .load true 7 (.t 5), none⟩,
    ⟨none, .store 7 (.t 4) (.t 58), none⟩] [4] [4, 11205, 11206, 12300, 15300])
  (.ret))))))
def spec_JoinBox.m : Fn := { np := 2, body := spec_JoinBox.b, res := [.cell 4 true 7] }
def spec_JoinBox.k (M : Nat → Option Body) : Prop := M 405 = some (.code spec_JoinBox.m) ∧ spec_JoinGone.k M ∧ spec_l06Copy.k M ∧ spec_Later.k M ∧ spec_l08Join.k M
end Mx

namespace Mx
open Go
def laws_in.l0 : C := .seq (.seq (.reg [⟨some 6, .mv (.t 5), none⟩,
    ⟨some 7, .mv (.t 0), none⟩,
    ⟨some 8, .len (.t 7), none⟩,
    ⟨some 9, .bin .lss (.t 6) (.t 8), none⟩] [0, 1, 5, 9] [])
  (.cond (.t 9) (.skip) (.exit 0)))
  (.seq (.block 1 (.seq (.reg [⟨some 12, .mv (.t 0), none⟩,
    ⟨some 13, .mv (.t 5), none⟩,
    ⟨some 14, .iaddr 1 (.t 12) (.t 13), none⟩,
    ⟨some 15, .load false 1 (.t 14), none⟩,
    ⟨some 16, .mv (.t 1), none⟩,
    ⟨some 17, .bin .eql (.t 15) (.t 16), none⟩] [0, 1, 5, 17] [])
  (.cond (.t 17) (.seq (.reg [⟨some 4, .mv (.k (.bool true)), none⟩] [4] [])
  (.ret)) (.skip))))
  (.reg [⟨some 10, .mv (.t 5), none⟩,
    ⟨some 11, .bin .add (.t 10) (.k (.int .i64 1)), none⟩,
    ⟨some 5, .mv (.t 11), none⟩] [0, 1, 5] []))
def laws_in.b : C := .seq (.reg [⟨some 4, .mv (.k (.bool false)), none⟩] [0, 1] [])
  (.seq (.seq (.reg [⟨some 5, .mv (.k (.int .i64 0)), none⟩] [0, 1, 5] [])
  (.block 0 (.loop laws_in.l0)))
  (.seq (.reg [⟨some 4, .mv (.k (.bool false)), none⟩] [4] [])
  (.ret)))
def laws_in.m : Fn := { np := 2, body := laws_in.b, res := [.tmp 4] }
def laws_in.k (M : Nat → Option Body) : Prop := M 402 = some (.code laws_in.m)
def laws_FnUidsKept.l1 : C := .seq (.seq (.reg [⟨some 49, .mv (.t 8), none⟩,
    ⟨some 50, .faddr 5 (.t 3), none⟩,
    ⟨some 51, .load false 1 (.t 50), none⟩,
    ⟨some 52, .len (.t 51), none⟩,
    ⟨some 53, .bin .lss (.t 49) (.t 52), none⟩] [0, 3, 4, 5, 6, 7, 8, 53] [3, 4, 5, 7])
  (.cond (.t 53) (.skip) (.exit 2)))
  (.seq (.block 3 (.seq (.regd [⟨some 56, .faddr 5 (.t 3), none⟩,
    ⟨some 57, .load false 1 (.t 56), none⟩,
    ⟨some 58, .mv (.t 8), none⟩,
    ⟨some 59, .iaddr 4 (.t 57) (.t 58), none⟩,
    ⟨some 60, .faddr 1 (.t 59), none⟩,
    ⟨some 61, .load false 1 (.t 60), none⟩,
    ⟨some 62, .faddr 1 (.t 7), none⟩,
    ⟨some 63, .load false 1 (.t 62), none⟩,
    ⟨some 64, .bin .eql (.t 61) (.t 63), none⟩,
    ⟨some 65, .mv (.t 64), none⟩,
    ⟨some 66, .faddr 5 (.t 3), some (65, true)⟩,
    ⟨some 67, .load false 1 (.t 66), some (65, true)⟩,
    ⟨some 68, .mv (.t 8), some (65, true)⟩,
    ⟨some 69, .iaddr 4 (.t 67) (.t 68), some (65, true)⟩,
    ⟨some 70, .faddr 0 (.t 69), some (65, true)⟩,
    ⟨some 71, .load false 1 (.t 70), some (65, true)⟩,
    ⟨some 72, .faddr 0 (.t 7), some (65, true)⟩,
    ⟨some 73, .load false 1 (.t 72), some (65, true)⟩,
    ⟨some 74, .bin .neq (.t 71) (.t 73), some (65, true)⟩,
    ⟨some 75, .pick (.t 65) (.t 74) (.k (.bool false)), none⟩] [[], [0], [], [0, 1, 2], List.range 4, List.range 5, [], [6], List.range 8, List.range 9, List.range 10, List.range 11, List.range 10, List.range 13, List.range 14, List.range 15, List.range 10, List.range 10 ++ [16], List.range 18, List.range 19] [0, 3, 4, 5, 6, 7, 8, 75] [3, 4, 5, 7])
  (.cond (.t 75) (.seq (.reg [⟨some 2, .mv (.k (.bool false)), none⟩] [2] [])
  (.ret)) (.skip))))
  (.reg [⟨some 54, .mv (.t 8), none⟩,
    ⟨some 55, .bin .add (.t 54) (.k (.int .i64 1)), none⟩,
    ⟨some 8, .mv (.t 55), none⟩] [0, 3, 4, 5, 6, 7, 8] [3, 4, 5, 7]))
def laws_FnUidsKept.l2 : C := .seq (.seq (.reg [⟨some 76, .mv (.t 9), none⟩,
    ⟨some 77, .faddr 5 (.t 4), none⟩,
    ⟨some 78, .load false 1 (.t 77), none⟩,
    ⟨some 79, .len (.t 78), none⟩,
    ⟨some 80, .bin .lss (.t 76) (.t 79), none⟩] [0, 3, 4, 5, 6, 7, 9, 80] [3, 4, 5, 7])
  (.cond (.t 80) (.skip) (.exit 4)))
  (.seq (.block 5 (.seq (.regd [⟨some 83, .faddr 5 (.t 4), none⟩,
    ⟨some 84, .load false 1 (.t 83), none⟩,
    ⟨some 85, .mv (.t 9), none⟩,
    ⟨some 86, .iaddr 4 (.t 84) (.t 85), none⟩,
    ⟨some 87, .faddr 1 (.t 86), none⟩,
    ⟨some 88, .load false 1 (.t 87), none⟩,
    ⟨some 89, .faddr 1 (.t 7), none⟩,
    ⟨some 90, .load false 1 (.t 89), none⟩,
    ⟨some 91, .bin .eql (.t 88) (.t 90), none⟩,
    ⟨some 92, .mv (.t 91), none⟩,
    ⟨some 93, .faddr 5 (.t 4), some (92, true)⟩,
    ⟨some 94, .load false 1 (.t 93), some (92, true)⟩,
    ⟨some 95, .mv (.t 9), some (92, true)⟩,
    ⟨some 96, .iaddr 4 (.t 94) (.t 95), some (92, true)⟩,
    ⟨some 97, .faddr 0 (.t 96), some (92, true)⟩,
    ⟨some 98, .load false 1 (.t 97), some (92, true)⟩,
    ⟨some 99, .faddr 0 (.t 7), some (92, true)⟩,
    ⟨some 100, .load false 1 (.t 99), some (92, true)⟩,
    ⟨some 101, .bin .neq (.t 98) (.t 100), some (92, true)⟩,
    ⟨some 102, .pick (.t 92) (.t 101) (.k (.bool false)), none⟩] [[], [0], [], [0, 1, 2], List.range 4, List.range 5, [], [6], List.range 8, List.range 9, List.range 10, List.range 11, List.range 10, List.range 13, List.range 14, List.range 15, List.range 10, List.range 10 ++ [16], List.range 18, List.range 19] [0, 3, 4, 5, 6, 7, 9, 102] [3, 4, 5, 7])
  (.cond (.t 102) (.seq (.reg [⟨some 2, .mv (.k (.bool false)), none⟩] [2] [])
  (.ret)) (.skip))))
  (.reg [⟨some 81, .mv (.t 9), none⟩,
    ⟨some 82, .bin .add (.t 81) (.k (.int .i64 1)), none⟩,
    ⟨some 9, .mv (.t 82), none⟩] [0, 3, 4, 5, 6, 7, 9] [3, 4, 5, 7]))
def laws_FnUidsKept.l0 : C := .seq (.seq (.reg [⟨some 25, .mv (.t 6), none⟩,
    ⟨some 26, .faddr 5 (.t 5), none⟩,
    ⟨some 27, .load false 1 (.t 26), none⟩,
    ⟨some 28, .len (.t 27), none⟩,
    ⟨some 29, .bin .lss (.t 25) (.t 28), none⟩] [0, 3, 4, 5, 6, 29] [3, 4, 5])
  (.cond (.t 29) (.skip) (.exit 0)))
  (.seq (.block 1 (.seq (.reg [⟨some 32, .faddr 5 (.t 5), none⟩,
    ⟨some 33, .load false 1 (.t 32), none⟩,
    ⟨some 34, .mv (.t 6), none⟩,
    ⟨some 35, .iaddr 4 (.t 33) (.t 34), none⟩,
    ⟨some 36, .load true 4 (.t 35), none⟩,
    ⟨some 7, .alloc [.int .i64 0, .int .i64 0, .nils 3, .str ⟨#[]⟩], none⟩,
    ⟨none, .store 4 (.t 7) (.t 36), none⟩] [0, 3, 4, 5, 6, 7] [3, 4, 5, 7])
  (.seq (.seq (.reg [⟨some 37, .faddr 1 (.t 7), none⟩,
    ⟨some 38, .load false 1 (.t 37), none⟩,
    ⟨some 39, .faddr 4 (.t 3), none⟩,
    ⟨some 40, .load false 1 (.t 39), none⟩,
    ⟨some 41, .bin .geq (.t 38) (.t 40), none⟩,
    ⟨some 42, .mv (.t 41), none⟩,
    ⟨some 43, .faddr 1 (.t 7), some (42, true)⟩,
    ⟨some 44, .load false 1 (.t 43), some (42, true)⟩,
    ⟨some 45, .faddr 4 (.t 4), some (42, true)⟩,
    ⟨some 46, .load false 1 (.t 45), some (42, true)⟩,
    ⟨some 47, .bin .geq (.t 44) (.t 46), some (42, true)⟩,
    ⟨some 48, .pick (.t 42) (.t 47) (.k (.bool false)), none⟩] [0, 3, 4, 5, 6, 7, 48] [3, 4, 5, 7])
  (.cond (.t 48) (.exit 1) (.skip)))
  (.seq (.seq (.reg [⟨some 8, .mv (.k (.int .i64 0)), none⟩] [0, 3, 4, 5, 6, 7, 8] [3, 4, 5, 7])
  (.block 2 (.loop laws_FnUidsKept.l1)))
  (.seq (.seq (.reg [⟨some 9, .mv (.k (.int .i64 0)), none⟩] [0, 3, 4, 5, 6, 7, 9] [3, 4, 5, 7])
  (.block 4 (.loop laws_FnUidsKept.l2)))
  (.seq (.reg [⟨some 103, .load true 7 (.t 3), none⟩,
    ⟨some 104, .faddr 0 (.t 7), none⟩,
    ⟨some 105, .load false 1 (.t 104), none⟩,
    ⟨some 106, .call 72 [.t 103, .t 105] [] [], none⟩,
    ⟨some 10, .mv (.t 106), none⟩] [0, 3, 4, 5, 6, 7, 10] [3, 4, 5, 7])
  (.seq (.reg [⟨some 107, .load true 7 (.t 4), none⟩,
    ⟨some 108, .faddr 0 (.t 7), none⟩,
    ⟨some 109, .load false 1 (.t 108), none⟩,
    ⟨some 110, .call 72 [.t 107, .t 109] [] [], none⟩,
    ⟨some 11, .mv (.t 110), none⟩] [0, 3, 4, 5, 6, 7, 10, 11] [3, 4, 5, 7])
  (.seq (.regd [⟨some 111, .mv (.t 10), none⟩,
    ⟨some 112, .bin .geq (.t 111) (.k (.int .i64 0)), none⟩,
    ⟨some 113, .mv (.t 112), none⟩,
    ⟨some 114, .faddr 5 (.t 3), some (113, true)⟩,
    ⟨some 115, .load false 1 (.t 114), some (113, true)⟩,
    ⟨some 116, .mv (.t 10), some (113, true)⟩,
    ⟨some 117, .iaddr 4 (.t 115) (.t 116), some (113, true)⟩,
    ⟨some 118, .faddr 1 (.t 117), some (113, true)⟩,
    ⟨some 119, .load false 1 (.t 118), some (113, true)⟩,
    ⟨some 120, .faddr 1 (.t 7), some (113, true)⟩,
    ⟨some 121, .load false 1 (.t 120), some (113, true)⟩,
    ⟨some 122, .bin .neq (.t 119) (.t 121), some (113, true)⟩,
    ⟨some 123, .pick (.t 113) (.t 122) (.k (.bool false)), none⟩,
    ⟨some 124, .mv (.t 123), none⟩,
    ⟨some 125, .mv (.t 11), some (124, false)⟩,
    ⟨some 126, .bin .geq (.t 125) (.k (.int .i64 0)), some (124, false)⟩,
    ⟨some 127, .mv (.t 126), some (124, false)⟩,
    ⟨some 128, .faddr 5 (.t 4), some (127, true)⟩,
    ⟨some 129, .load false 1 (.t 128), some (127, true)⟩,
    ⟨some 130, .mv (.t 11), some (127, true)⟩,
    ⟨some 131, .iaddr 4 (.t 129) (.t 130), some (127, true)⟩,
    ⟨some 132, .faddr 1 (.t 131), some (127, true)⟩,
    ⟨some 133, .load false 1 (.t 132), some (127, true)⟩,
    ⟨some 134, .faddr 1 (.t 7), some (127, true)⟩,
    ⟨some 135, .load false 1 (.t 134), some (127, true)⟩,
    ⟨some 136, .bin .neq (.t 133) (.t 135), some (127, true)⟩,
    ⟨some 137, .pick (.t 127) (.t 136) (.k (.bool false)), some (124, false)⟩,
    ⟨some 138, .pick (.t 124) (.k (.bool true)) (.t 137), none⟩,
    ⟨some 139, .mv (.t 138), none⟩,
    ⟨some 140, .mv (.t 10), some (139, false)⟩,
    ⟨some 141, .bin .lss (.t 140) (.k (.int .i64 0)), some (139, false)⟩,
    ⟨some 142, .mv (.t 141), some (139, false)⟩,
    ⟨some 143, .faddr 1 (.t 7), some (142, true)⟩,
    ⟨some 144, .load false 1 (.t 143), some (142, true)⟩,
    ⟨some 145, .faddr 4 (.t 3), some (142, true)⟩,
    ⟨some 146, .load false 1 (.t 145), some (142, true)⟩,
    ⟨some 147, .bin .lss (.t 144) (.t 146), some (142, true)⟩,
    ⟨some 148, .pick (.t 142) (.t 147) (.k (.bool false)), some (139, false)⟩,
    ⟨some 149, .pick (.t 139) (.k (.bool true)) (.t 148), none⟩,
    ⟨some 150, .mv (.t 149), none⟩,
    ⟨some 151, .mv (.t 11), some (150, false)⟩,
    ⟨some 152, .bin .lss (.t 151) (.k (.int .i64 0)), some (150, false)⟩,
    ⟨some 153, .mv (.t 152), some (150, false)⟩,
    ⟨some 154, .faddr 1 (.t 7), some (153, true)⟩,
    ⟨some 155, .load false 1 (.t 154), some (153, true)⟩,
    ⟨some 156, .faddr 4 (.t 4), some (153, true)⟩,
    ⟨some 157, .load false 1 (.t 156), some (153, true)⟩,
    ⟨some 158, .bin .lss (.t 155) (.t 157), some (153, true)⟩,
    ⟨some 159, .pick (.t 153) (.t 158) (.k (.bool false)), some (150, false)⟩,
    ⟨some 160, .pick (.t 150) (.k (.bool true)) (.t 159), none⟩] [[], [0], [0, 1], [0, 1, 2], List.range 4, [0, 1, 2], List.range 6, List.range 7, List.range 8, [0, 1, 2], [0, 1, 2, 9], List.range 11, List.range 12, List.range 13, List.range 14, List.range 15, List.range 16, List.range 17, List.range 18, List.range 17, List.range 20, List.range 21, List.range 22, List.range 17, List.range 17 ++ [23], List.range 25, List.range 26, List.range 27, List.range 28, List.range 29, List.range 30, List.range 31, List.range 32, List.range 33, List.range 32, List.range 32 ++ [34], List.range 36, List.range 37, List.range 38, List.range 39, List.range 40, List.range 41, List.range 42, List.range 43, List.range 44, List.range 43, List.range 43 ++ [45], List.range 47, List.range 48, List.range 49] [0, 3, 4, 5, 6, 160] [3, 4, 5])
  (.cond (.t 160) (.seq (.reg [⟨some 2, .mv (.k (.bool false)), none⟩] [2] [])
  (.ret)) (.skip))))))))))
  (.reg [⟨some 30, .mv (.t 6), none⟩,
    ⟨some 31, .bin .add (.t 30) (.k (.int .i64 1)), none⟩,
    ⟨some 6, .mv (.t 31), none⟩] [0, 3, 4, 5, 6] [3, 4, 5]))
def laws_FnUidsKept.b : C := .seq (.reg [⟨some 2, .mv (.k (.bool false)), none⟩] [0] [])
  (.seq (.seq (.reg [⟨some 15, .mv (.t 0), none⟩,
    ⟨some 16, .call 36 [.t 15] [] [], none⟩] [0, 16] [])
  (.cond (.t 16) (.seq (.reg [⟨some 2, .mv (.k (.bool true)), none⟩] [2] [])
  (.ret)) (.skip)))
  (.seq (.reg [⟨some 18, .mv (.t 0), none⟩,
    ⟨some 19, .call 400 [.t 18] [] [], none⟩,
    ⟨some 17, .mv (.t 19), none⟩,
    ⟨some 20, .ext 0 (.t 17), none⟩,
    ⟨some 21, .ext 1 (.t 17), none⟩,
    ⟨some 3, .alloc [.int .i64 0, .str ⟨#[]⟩, .int .i64 0, .int .i64 0, .int .i64 0, .nils 4, .nils 1], none⟩,
    ⟨some 4, .alloc [.int .i64 0, .str ⟨#[]⟩, .int .i64 0, .int .i64 0, .int .i64 0, .nils 4, .nils 1], none⟩,
    ⟨none, .store 7 (.t 3) (.t 20), none⟩,
    ⟨none, .store 7 (.t 4) (.t 21), none⟩] [0, 3, 4] [3, 4])
  (.seq (.reg [⟨some 22, .load true 7 (.t 3), none⟩,
    ⟨some 23, .load true 7 (.t 4), none⟩,
    ⟨some 24, .call 401 [.t 22, .t 23] [] [], none⟩,
    ⟨some 5, .alloc [.int .i64 0, .str ⟨#[]⟩, .int .i64 0, .int .i64 0, .int .i64 0, .nils 4, .nils 1], none⟩,
    ⟨none, .store 7 (.t 5) (.t 24), none⟩] [0, 3, 4, 5] [3, 4, 5])
  (.seq (.seq (.reg [⟨some 6, .mv (.k (.int .i64 0)), none⟩] [0, 3, 4, 5, 6] [3, 4, 5])
  (.block 0 (.loop laws_FnUidsKept.l0)))
  (.seq (.reg [⟨some 162, .mv (.t 0), none⟩,
    ⟨some 163, .call 414 [.t 162] [] [], none⟩,
    ⟨some 161, .mv (.t 163), none⟩,
    ⟨some 164, .ext 0 (.t 161), none⟩,
    ⟨some 165, .ext 1 (.t 161), none⟩,
    ⟨some 166, .ext 2 (.t 161), none⟩,
    ⟨some 12, .alloc [.int .i64 0, .str ⟨#[]⟩, .int .i64 0, .int .i64 0, .int .i64 0, .nils 4, .nils 1], none⟩,
    ⟨some 13, .alloc [.int .i64 0, .str ⟨#[]⟩, .int .i64 0, .int .i64 0, .int .i64 0, .nils 4, .nils 1], none⟩,
    ⟨none, .store 7 (.t 12) (.t 164), none⟩,
    ⟨none, .store 7 (.t 13) (.t 165), none⟩,
    ⟨some 14, .mv (.t 166), none⟩] [3, 4, 5, 12, 13, 14] [3, 4, 5, 12, 13])
  (.seq (.regd [⟨some 167, .load true 7 (.t 12), none⟩,
    ⟨some 168, .load true 7 (.t 13), none⟩,
    ⟨some 169, .mv (.t 14), none⟩,
    ⟨some 170, .call 23 [.t 167, .t 168, .t 169] [] [], none⟩,
    ⟨some 171, .load true 7 (.t 12), none⟩,
    ⟨some 172, .load true 7 (.t 13), none⟩,
    ⟨some 173, .mv (.t 14), none⟩,
    ⟨some 174, .call 22 [.t 171, .t 172, .t 173] [] [], none⟩,
    ⟨some 175, .beq false (.t 170) (.t 174), none⟩,
    ⟨some 176, .mv (.t 175), none⟩,
    ⟨some 177, .faddr 5 (.t 5), some (176, true)⟩,
    ⟨some 178, .load false 1 (.t 177), some (176, true)⟩,
    ⟨some 179, .len (.t 178), some (176, true)⟩,
    ⟨some 180, .load true 7 (.t 3), some (176, true)⟩,
    ⟨some 181, .load true 7 (.t 4), some (176, true)⟩,
    ⟨some 182, .call 415 [.t 180, .t 181] [] [], some (176, true)⟩,
    ⟨some 183, .len (.t 182), some (176, true)⟩,
    ⟨some 184, .bin .eql (.t 179) (.t 183), some (176, true)⟩,
    ⟨some 185, .pick (.t 176) (.t 184) (.k (.bool false)), none⟩,
    ⟨some 186, .mv (.t 185), none⟩,
    ⟨some 187, .load true 7 (.t 5), some (186, true)⟩,
    ⟨some 188, .load true 7 (.t 3), some (186, true)⟩,
    ⟨some 189, .load true 7 (.t 4), some (186, true)⟩,
    ⟨some 190, .call 405 [.t 188, .t 189] [] [], some (186, true)⟩,
    ⟨some 191, .call 71 [.t 187, .t 190] [] [], some (186, true)⟩,
    ⟨some 192, .pick (.t 186) (.t 191) (.k (.bool false)), none⟩,
    ⟨some 2, .mv (.t 192), none⟩] [[], [], [], [0, 1, 2], [], [], [], List.range 7, List.range 8, List.range 9, List.range 10, List.range 11, List.range 12, List.range 10, List.range 10, List.range 10 ++ [13, 14], List.range 10 ++ [13, 14, 15], List.range 17, List.range 18, List.range 19, List.range 20, List.range 20, List.range 20, List.range 20 ++ [21, 22], List.range 24, List.range 25, List.range 26] [2] [])
  (.ret)))))))
def laws_FnUidsKept.m : Fn := { np := 1, body := laws_FnUidsKept.b, res := [.tmp 2] }
def laws_FnUidsKept.k (M : Nat → Option Body) : Prop := M 395 = some (.code laws_FnUidsKept.m) ∧ spec_KeepsUid.k M ∧ impl_KeepsUid.k M ∧ laws_big.k M ∧ laws_sameBox.k M ∧ impl_MailAt.k M ∧ spec_DrawTwoBoxes.k M ∧ impl_JoinBox.k M ∧ spec_JoinBox.k M ∧ spec_DrawKeepsUid.k M ∧ impl_JoinMails.k M
def laws_FnMailsKept.l0 : C := .seq (.seq (.reg [⟨some 25, .mv (.t 7), none⟩,
    ⟨some 26, .faddr 5 (.t 3), none⟩,
    ⟨some 27, .load false 1 (.t 26), none⟩,
    ⟨some 28, .len (.t 27), none⟩,
    ⟨some 29, .bin .lss (.t 25) (.t 28), none⟩] [0, 3, 4, 5, 6, 7, 29] [3, 4, 5])
  (.cond (.t 29) (.skip) (.exit 0)))
  (.seq (.block 1 (.seq (.reg [⟨some 32, .faddr 5 (.t 3), none⟩,
    ⟨some 33, .load false 1 (.t 32), none⟩,
    ⟨some 34, .mv (.t 7), none⟩,
    ⟨some 35, .iaddr 4 (.t 33) (.t 34), none⟩,
    ⟨some 36, .faddr 0 (.t 35), none⟩,
    ⟨some 37, .load false 1 (.t 36), none⟩,
    ⟨some 8, .mv (.t 37), none⟩] [0, 3, 4, 5, 6, 7, 8] [3, 4, 5])
  (.seq (.seq (.regd [⟨some 38, .load true 7 (.t 5), none⟩,
    ⟨some 39, .mv (.t 8), none⟩,
    ⟨some 40, .call 20 [.t 38, .t 39] [] [], none⟩,
    ⟨some 41, .faddr 6 (.t 4), none⟩,
    ⟨some 42, .load false 1 (.t 41), none⟩,
    ⟨some 43, .mv (.t 8), none⟩,
    ⟨some 44, .call 402 [.t 42, .t 43] [] [], none⟩,
    ⟨some 45, .beq false (.t 40) (.t 44), none⟩] [[], [], [0, 1], [], [3], [], List.range 6, List.range 7] [0, 3, 4, 5, 6, 7, 8, 45] [3, 4, 5])
  (.cond (.t 45) (.seq (.reg [⟨some 2, .mv (.k (.bool false)), none⟩] [2] [])
  (.ret)) (.skip)))
  (.seq (.reg [⟨some 46, .load true 7 (.t 5), none⟩,
    ⟨some 47, .mv (.t 8), none⟩,
    ⟨some 48, .call 20 [.t 46, .t 47] [] [], none⟩] [0, 3, 4, 5, 6, 7, 48] [3, 4, 5])
  (.cond (.t 48) (.reg [⟨some 49, .mv (.t 6), none⟩,
    ⟨some 50, .bin .add (.t 49) (.k (.int .i64 1)), none⟩,
    ⟨some 6, .mv (.t 50), none⟩] [0, 3, 4, 5, 6, 7] [3, 4, 5]) (.skip))))))
  (.reg [⟨some 30, .mv (.t 7), none⟩,
    ⟨some 31, .bin .add (.t 30) (.k (.int .i64 1)), none⟩,
    ⟨some 7, .mv (.t 31), none⟩] [0, 3, 4, 5, 6, 7] [3, 4, 5]))
def laws_FnMailsKept.l1 : C := .seq (.seq (.reg [⟨some 51, .mv (.t 9), none⟩,
    ⟨some 52, .faddr 5 (.t 4), none⟩,
    ⟨some 53, .load false 1 (.t 52), none⟩,
    ⟨some 54, .len (.t 53), none⟩,
    ⟨some 55, .bin .lss (.t 51) (.t 54), none⟩] [0, 3, 4, 5, 6, 9, 55] [3, 4, 5])
  (.cond (.t 55) (.skip) (.exit 2)))
  (.seq (.block 3 (.seq (.reg [⟨some 58, .faddr 5 (.t 4), none⟩,
    ⟨some 59, .load false 1 (.t 58), none⟩,
    ⟨some 60, .mv (.t 9), none⟩,
    ⟨some 61, .iaddr 4 (.t 59) (.t 60), none⟩,
    ⟨some 62, .faddr 0 (.t 61), none⟩,
    ⟨some 63, .load false 1 (.t 62), none⟩,
    ⟨some 10, .mv (.t 63), none⟩] [0, 3, 4, 5, 6, 9, 10] [3, 4, 5])
  (.seq (.seq (.regd [⟨some 64, .load true 7 (.t 5), none⟩,
    ⟨some 65, .mv (.t 10), none⟩,
    ⟨some 66, .call 20 [.t 64, .t 65] [] [], none⟩,
    ⟨some 67, .faddr 6 (.t 3), none⟩,
    ⟨some 68, .load false 1 (.t 67), none⟩,
    ⟨some 69, .mv (.t 10), none⟩,
    ⟨some 70, .call 402 [.t 68, .t 69] [] [], none⟩,
    ⟨some 71, .beq false (.t 66) (.t 70), none⟩] [[], [], [0, 1], [], [3], [], List.range 6, List.range 7] [0, 3, 4, 5, 6, 9, 10, 71] [3, 4, 5])
  (.cond (.t 71) (.seq (.reg [⟨some 2, .mv (.k (.bool false)), none⟩] [2] [])
  (.ret)) (.skip)))
  (.seq (.reg [⟨some 72, .load true 7 (.t 5), none⟩,
    ⟨some 73, .mv (.t 10), none⟩,
    ⟨some 74, .call 20 [.t 72, .t 73] [] [], none⟩,
    ⟨some 75, .mv (.t 74), none⟩,
    ⟨some 76, .load true 7 (.t 3), some (75, true)⟩,
    ⟨some 77, .mv (.t 10), some (75, true)⟩,
    ⟨some 78, .call 20 [.t 76, .t 77] [] [], some (75, true)⟩,
    ⟨some 79, .not (.t 78), some (75, true)⟩,
    ⟨some 80, .pick (.t 75) (.t 79) (.k (.bool false)), none⟩] [0, 3, 4, 5, 6, 9, 80] [3, 4, 5])
  (.cond (.t 80) (.reg [⟨some 81, .mv (.t 6), none⟩,
    ⟨some 82, .bin .add (.t 81) (.k (.int .i64 1)), none⟩,
    ⟨some 6, .mv (.t 82), none⟩] [0, 3, 4, 5, 6, 9] [3, 4, 5]) (.skip))))))
  (.reg [⟨some 56, .mv (.t 9), none⟩,
    ⟨some 57, .bin .add (.t 56) (.k (.int .i64 1)), none⟩,
    ⟨some 9, .mv (.t 57), none⟩] [0, 3, 4, 5, 6, 9] [3, 4, 5]))
def laws_FnMailsKept.b : C := .seq (.reg [⟨some 2, .mv (.k (.bool false)), none⟩] [0] [])
  (.seq (.seq (.reg [⟨some 15, .mv (.t 0), none⟩,
    ⟨some 16, .call 36 [.t 15] [] [], none⟩] [0, 16] [])
  (.cond (.t 16) (.seq (.reg [⟨some 2, .mv (.k (.bool true)), none⟩] [2] [])
  (.ret)) (.skip)))
  (.seq (.reg [⟨some 18, .mv (.t 0), none⟩,
    ⟨some 19, .call 400 [.t 18] [] [], none⟩,
    ⟨some 17, .mv (.t 19), none⟩,
    ⟨some 20, .ext 0 (.t 17), none⟩,
    ⟨some 21, .ext 1 (.t 17), none⟩,
    ⟨some 3, .alloc [.int .i64 0, .str ⟨#[]⟩, .int .i64 0, .int .i64 0, .int .i64 0, .nils 4, .nils 1], none⟩,
    ⟨some 4, .alloc [.int .i64 0, .str ⟨#[]⟩, .int .i64 0, .int .i64 0, .int .i64 0, .nils 4, .nils 1], none⟩,
    ⟨none, .store 7 (.t 3) (.t 20), none⟩,
    ⟨none, .store 7 (.t 4) (.t 21), none⟩] [0, 3, 4] [3, 4])
  (.seq (.reg [⟨some 22, .load true 7 (.t 3), none⟩,
    ⟨some 23, .load true 7 (.t 4), none⟩,
    ⟨some 24, .call 401 [.t 22, .t 23] [] [], none⟩,
    ⟨some 5, .alloc [.int .i64 0, .str ⟨#[]⟩, .int .i64 0, .int .i64 0, .int .i64 0, .nils 4, .nils 1], none⟩,
    ⟨none, .store 7 (.t 5) (.t 24), none⟩] [0, 3, 4, 5] [3, 4, 5])
  (.seq (.reg [⟨some 6, .mv (.k (.int .i64 0)), none⟩] [0, 3, 4, 5, 6] [3, 4, 5])
  (.seq (.seq (.reg [⟨some 7, .mv (.k (.int .i64 0)), none⟩] [0, 3, 4, 5, 6, 7] [3, 4, 5])
  (.block 0 (.loop laws_FnMailsKept.l0)))
  (.seq (.seq (.reg [⟨some 9, .mv (.k (.int .i64 0)), none⟩] [0, 3, 4, 5, 6, 9] [3, 4, 5])
  (.block 2 (.loop laws_FnMailsKept.l1)))
  (.seq (.reg [⟨some 84, .mv (.t 0), none⟩,
    ⟨some 85, .call 403 [.t 84] [] [], none⟩,
    ⟨some 83, .mv (.t 85), none⟩,
    ⟨some 86, .ext 0 (.t 83), none⟩,
    ⟨some 87, .ext 1 (.t 83), none⟩,
    ⟨some 11, .mv (.t 86), none⟩,
    ⟨some 12, .mv (.t 87), none⟩] [0, 3, 4, 5, 6, 11, 12] [3, 4, 5])
  (.seq (.reg [⟨some 89, .mv (.t 0), none⟩,
    ⟨some 90, .call 404 [.t 89] [] [], none⟩,
    ⟨some 88, .mv (.t 90), none⟩,
    ⟨some 91, .ext 0 (.t 88), none⟩,
    ⟨some 92, .ext 1 (.t 88), none⟩,
    ⟨some 13, .alloc [.int .i64 0, .str ⟨#[]⟩, .int .i64 0, .int .i64 0, .int .i64 0, .nils 4, .nils 1], none⟩,
    ⟨some 14, .alloc [.int .i64 0, .str ⟨#[]⟩, .int .i64 0, .int .i64 0, .int .i64 0, .nils 4, .nils 1], none⟩,
    ⟨none, .store 7 (.t 13) (.t 91), none⟩,
    ⟨none, .store 7 (.t 14) (.t 92), none⟩] [3, 4, 5, 6, 11, 12, 13, 14] [3, 4, 5, 13, 14])
  (.seq (.regd [⟨some 93, .mv (.t 6), none⟩,
    ⟨some 94, .faddr 5 (.t 5), none⟩,
    ⟨some 95, .load false 1 (.t 94), none⟩,
    ⟨some 96, .len (.t 95), none⟩,
    ⟨some 97, .bin .eql (.t 93) (.t 96), none⟩,
    ⟨some 98, .mv (.t 97), none⟩,
    ⟨some 99, .faddr 6 (.t 5), some (98, true)⟩,
    ⟨some 100, .load false 1 (.t 99), some (98, true)⟩,
    ⟨some 101, .faddr 6 (.t 4), some (98, true)⟩,
    ⟨some 102, .load false 1 (.t 101), some (98, true)⟩,
    ⟨some 103, .faddr 6 (.t 3), some (98, true)⟩,
    ⟨some 104, .load false 1 (.t 103), some (98, true)⟩,
    ⟨some 105, .call 44 [.t 102, .t 104] [] [], some (98, true)⟩,
    ⟨some 106, .call 158 [.t 100, .t 105] [] [], some (98, true)⟩,
    ⟨some 107, .pick (.t 98) (.t 106) (.k (.bool false)), none⟩,
    ⟨some 108, .mv (.t 107), none⟩,
    ⟨some 109, .mv (.t 11), some (108, true)⟩,
    ⟨some 110, .mv (.t 12), some (108, true)⟩,
    ⟨some 111, .call 44 [.t 109, .t 110] [] [], some (108, true)⟩,
    ⟨some 112, .mv (.t 11), some (108, true)⟩,
    ⟨some 113, .mv (.t 12), some (108, true)⟩,
    ⟨some 114, .call 43 [.t 112, .t 113] [] [], some (108, true)⟩,
    ⟨some 115, .call 158 [.t 111, .t 114] [] [], some (108, true)⟩,
    ⟨some 116, .pick (.t 108) (.t 115) (.k (.bool false)), none⟩,
    ⟨some 117, .mv (.t 116), none⟩,
    ⟨some 118, .load true 7 (.t 13), some (117, true)⟩,
    ⟨some 119, .load true 7 (.t 14), some (117, true)⟩,
    ⟨some 120, .call 401 [.t 118, .t 119] [] [], some (117, true)⟩,
    ⟨some 121, .load true 7 (.t 13), some (117, true)⟩,
    ⟨some 122, .load true 7 (.t 14), some (117, true)⟩,
    ⟨some 123, .call 405 [.t 121, .t 122] [] [], some (117, true)⟩,
    ⟨some 124, .call 71 [.t 120, .t 123] [] [], some (117, true)⟩,
    ⟨some 125, .pick (.t 117) (.t 124) (.k (.bool false)), none⟩,
    ⟨some 2, .mv (.t 125), none⟩] [[], [], [1], [1, 2], List.range 4, List.range 5, List.range 6, List.range 7, List.range 6, List.range 6 ++ [8], List.range 6, List.range 6 ++ [10], List.range 6 ++ [8, 9, 10, 11], List.range 13, List.range 14, List.range 15, List.range 16, List.range 16, List.range 18, List.range 16, List.range 16, List.range 21, List.range 22, List.range 23, List.range 24, List.range 25, List.range 25, List.range 27, List.range 25, List.range 25, List.range 30, List.range 31, List.range 32, List.range 33] [2] [])
  (.ret))))))))))
def laws_FnMailsKept.m : Fn := { np := 1, body := laws_FnMailsKept.b, res := [.tmp 2] }
def laws_FnMailsKept.k (M : Nat → Option Body) : Prop := M 392 = some (.code laws_FnMailsKept.m) ∧ impl_Holds.k M ∧ laws_big.k M ∧ spec_JoinGone.k M ∧ impl_JoinGone.k M ∧ laws_sameBox.k M ∧ laws_sameInts.k M ∧ spec_DrawTwoBoxes.k M ∧ impl_JoinBox.k M ∧ laws_in.k M ∧ spec_DrawJoinGone.k M ∧ spec_DrawJoinBox.k M ∧ spec_JoinBox.k M
end Mx

namespace Mx
open Go
theorem andI_eq (k : IntKind) (x y : Int) : andI k x y = k.wrap (((x % ((2 ^ k.bits : Nat) : Int)).toNat &&& (y % ((2 ^ k.bits : Nat) : Int)).toNat : Nat) : Int) := by
  unfold andI; rw [BitVec.toNat_and, BitVec.toNat_ofInt, BitVec.toNat_ofInt]
theorem brow_nil : brow [] = [] := rfl
attribute [simp] brow_nil
end Mx

namespace Mx
open Go
variable {M : Nat → Option Body}
abbrev curD (R : List (List T)) (i : Nat) (h : Int) : Nat × Ob := (0, ⟨0, 3, true, true, [[.sl false 1 R, I i, I h]]⟩)
def Bytes (R : List (List T)) : Prop := R.length ≤ 1048576 ∧ ∀ (i : Nat) (r : List T), R[i]? = some r → ∃ n : Int, r = [.int .u8 n]
theorem and_255 (x : Int) : ∃ n : Nat, n < 256 ∧ andI .i64 x 255 = (n : Int) := by
  rw [andI_eq]
  refine ⟨(x % ((2 ^ IntKind.i64.bits : Nat) : Int)).toNat &&& 255, ?_, ?_⟩
  · have : (x % ((2 ^ IntKind.i64.bits : Nat) : Int)).toNat &&& 255 ≤ 255 := Nat.and_le_right
    omega
  · have h : (x % ((2 ^ IntKind.i64.bits : Nat) : Int)).toNat &&& 255 ≤ 255 := Nat.and_le_right
    have e : ((255 : Int) % ((2 ^ IntKind.i64.bits : Nat) : Int)).toNat = 255 := by decide
    rw [e]
    exact wrap_i64 (by omega) (by omega)
theorem spec_l01Byte.says (h : spec_l01Byte.k M) {R : List (List T)} (hR : Bytes R) (i : Nat) (q : Int) (hi : i ≤ R.length) :
    ∃ (x i' : Nat) (q' : Int), x < 256 ∧ i' ≤ R.length ∧ run M 131 [.c (.ptr 0 0 0 0)] [curD R i q] = some (.c (I x), [curD R i' q']) := by
  obtain ⟨hl, hb⟩ := hR
  obtain ⟨q1, hq1⟩ : ∃ q1, IntKind.i64.wrap (IntKind.i64.wrap (q * 6364136223846793005) + 1442695040888963407) = q1 := ⟨_, rfl⟩
  obtain ⟨x, hx, e1⟩ := and_255 (xorI .i64 (q1.fdiv ((2 : Int) ^ min 33 IntKind.i64.bits)) (q1.fdiv ((2 : Int) ^ min 45 IntKind.i64.bits)))
  by_cases hlt : i < R.length
  · obtain ⟨n, hn⟩ := hb i R[i] (List.getElem?_eq_getElem hlt)
    obtain ⟨y, hy, e2⟩ := and_255 (IntKind.i64.wrap (x + IntKind.i64.wrap n))
    refine ⟨y, i + 1, q1, hy, by omega, ?_⟩
    refine run_code (b := spec_l01Byte.m) h ⟨0, ?_⟩
    have e3 : IntKind.i64.wrap ((i : Int) + 1) = (i : Int) + 1 := wrap_i64 (by omega) (by omega)
    simp (maxSteps := 1000000) [exB, spec_l01Byte.m, spec_l01Byte.b, List.range_succ, bs_get, setAt, hq1, e1, e2, e3, hlt, hn]
  · refine ⟨x, i, q1, hx, hi, ?_⟩
    refine run_code (b := spec_l01Byte.m) h ⟨0, ?_⟩
    simp (maxSteps := 1000000) [exB, spec_l01Byte.m, spec_l01Byte.b, List.range_succ, bs_get, setAt, hq1, e1, hlt]
theorem tmod_small (x n : Nat) (hn : 0 < n) : ∃ y : Nat, y < n ∧ ((x : Int).tmod (n : Int)) = (y : Int) := ⟨x % n, Nat.mod_lt _ hn, by rw [Int.tmod_eq_emod_of_nonneg (by omega)]; rfl⟩
/-- a number below n (at most 256, or a drawn one of four bytes) -/
theorem spec_l01Below.says (h : spec_l01Below.k M) {R : List (List T)} (hR : Bytes R) (i : Nat) (q : Int) (hi : i ≤ R.length) (n : Nat) (hn : 0 < n) (hn2 : n ≤ 1000000000) :
    ∃ (x i' : Nat) (q' : Int), x < n ∧ i' ≤ R.length ∧ run M 125 [.c (.ptr 0 0 0 0), .c (I n)] [curD R i q] = some (.c (I x), [curD R i' q']) := by
  obtain ⟨h0, k1⟩ := h
  have n0 : ¬ (n : Int) ≤ 0 := by omega
  have n1 : ¬ n = 0 := by omega
  obtain ⟨x1, i1, q1, hx1, hi1, h1⟩ := spec_l01Byte.says k1 hR i q hi
  by_cases hs : n ≤ 256
  · have hs2 : (n : Int) ≤ 256 := by omega
    obtain ⟨y, hy, e⟩ := tmod_small x1 n hn
    refine ⟨y, i1, q1, hy, hi1, ?_⟩
    refine run_code (b := spec_l01Below.m) h0 ⟨0, ?_⟩
    simp (maxSteps := 1000000) [exB, spec_l01Below.m, spec_l01Below.b, List.range_succ, bs_get, setAt, h1, n0, n1, hs, hs2, e]
  · have hs2 : ¬ (n : Int) ≤ 256 := by omega
    obtain ⟨x2, i2, q2, hx2, hi2, h2⟩ := spec_l01Byte.says k1 hR i1 q1 hi1
    obtain ⟨x3, i3, q3, hx3, hi3, h3⟩ := spec_l01Byte.says k1 hR i2 q2 hi2
    obtain ⟨x4, i4, q4, hx4, hi4, h4⟩ := spec_l01Byte.says k1 hR i3 q3 hi3
    have w1 : IntKind.i64.wrap ((x1 : Int) * 16777216) = ((x1 * 16777216 : Nat) : Int) := wrap_i64 (by omega) (by omega)
    have w2 : IntKind.i64.wrap ((x2 : Int) * 65536) = ((x2 * 65536 : Nat) : Int) := wrap_i64 (by omega) (by omega)
    have w3 : IntKind.i64.wrap ((x3 : Int) * 256) = ((x3 * 256 : Nat) : Int) := wrap_i64 (by omega) (by omega)
    obtain ⟨y1, hy1⟩ : ∃ y1, x1 * 16777216 = y1 := ⟨_, rfl⟩
    obtain ⟨y2, hy2⟩ : ∃ y2, x2 * 65536 = y2 := ⟨_, rfl⟩
    obtain ⟨y3, hy3⟩ : ∃ y3, x3 * 256 = y3 := ⟨_, rfl⟩
    rw [hy1] at w1; rw [hy2] at w2; rw [hy3] at w3
    have w4 : IntKind.i64.wrap ((y1 : Int) + y2) = ((y1 + y2 : Nat) : Int) := wrap_i64 (by omega) (by omega)
    obtain ⟨z1, hz1⟩ : ∃ z1, y1 + y2 = z1 := ⟨_, rfl⟩
    rw [hz1] at w4
    have w5 : IntKind.i64.wrap ((z1 : Int) + y3) = ((z1 + y3 : Nat) : Int) := wrap_i64 (by omega) (by omega)
    obtain ⟨z2, hz2⟩ : ∃ z2, z1 + y3 = z2 := ⟨_, rfl⟩
    rw [hz2] at w5
    have w6 : IntKind.i64.wrap ((z2 : Int) + x4) = ((z2 + x4 : Nat) : Int) := wrap_i64 (by omega) (by omega)
    obtain ⟨z3, hz3⟩ : ∃ z3, z2 + x4 = z3 := ⟨_, rfl⟩
    rw [hz3] at w6
    obtain ⟨y, hy, e⟩ := tmod_small z3 n hn
    refine ⟨y, i4, q4, hy, hi4, ?_⟩
    refine run_code (b := spec_l01Below.m) h0 ⟨0, ?_⟩
    simp (maxSteps := 1000000) [exB, spec_l01Below.m, spec_l01Below.b, List.range_succ, bs_get, setAt, h1, h2, h3, h4, w1, w2, w3, w4, w5, w6, n0, n1, hs, hs2, e]
theorem spec_l01Pick.says (h : spec_l01Pick.k M) {R : List (List T)} (hR : Bytes R) (i : Nat) (q : Int) (hi : i ≤ R.length) (ss : List (List UInt8)) (h0 : 0 < ss.length) (hn : ss.length ≤ 256) :
    ∃ (s : List UInt8) (i' : Nat) (q' : Int), s ∈ ss ∧ i' ≤ R.length ∧ run M 185 [.c (.ptr 0 0 0 0), .c (.sl false 1 (ss.map fun s => [S s]))] [curD R i q] = some (.c (S s), [curD R i' q']) := by
  obtain ⟨hm, k1⟩ := h
  obtain ⟨x, i1, q1, hx, hi1, h1⟩ := spec_l01Below.says k1 hR i q hi ss.length h0 (by omega)
  refine ⟨ss[x], i1, q1, List.getElem_mem hx, hi1, ?_⟩
  refine run_code (b := spec_l01Pick.m) hm ⟨0, ?_⟩
  simp (maxSteps := 1000000) [exB, spec_l01Pick.m, spec_l01Pick.b, List.range_succ, bs_get, setAt, h1, hx]
theorem spec_l03Stamp.says (h : spec_l03Stamp.k M) {R : List (List T)} (hR : Bytes R) (i : Nat) (q : Int) (hi : i ≤ R.length) :
    ∃ (t w i' : Nat) (q' : Int), t < 12 ∧ 1 ≤ w ∧ w ≤ 2 ∧ i' ≤ R.length ∧ run M 232 [.c (.ptr 0 0 0 0)] [curD R i q] = some (.a [I t, I w], [curD R i' q']) := by
  obtain ⟨hm, k1⟩ := h
  obtain ⟨x, i1, q1, hx, hi1, h1⟩ := spec_l01Below.says k1 hR i q hi 12 (by omega) (by omega)
  obtain ⟨y, i2, q2, hy, hi2, h2⟩ := spec_l01Below.says k1 hR i1 q1 hi1 2 (by omega) (by omega)
  simp only [Int.cast_ofNat_Int] at h1 h2
  have e : IntKind.i64.wrap (1 + (y : Int)) = ((1 + y : Nat) : Int) := wrap_i64 (by omega) (by omega)
  refine ⟨x, 1 + y, i2, q2, hx, by omega, by omega, hi2, ?_⟩
  refine run_code (b := spec_l03Stamp.m) hm ⟨0, ?_⟩
  simp (maxSteps := 1000000) [exB, spec_l03Stamp.m, spec_l03Stamp.b, List.range_succ, bs_get, setAt, h1, h2, e]
def texts5 : List (List UInt8) := [[104, 101, 108, 108, 111], [104, 105, 10], [], [116, 101, 120, 116, 32, 111, 102, 32, 105, 116], [0, 255], [97, 32, 98]]
theorem spec_l05Text.says (h : spec_l05Text.k M) {R : List (List T)} (hR : Bytes R) (i : Nat) (q : Int) (hi : i ≤ R.length) :
    ∃ (s : List UInt8) (i' : Nat) (q' : Int), s.length ≤ 60 ∧ i' ≤ R.length ∧ run M 174 [.c (.ptr 0 0 0 0)] [curD R i q] = some (.c (S s), [curD R i' q']) := by
  obtain ⟨hm, k1⟩ := h
  obtain ⟨s, i1, q1, hs, hi1, h1⟩ := spec_l01Pick.says k1 hR i q hi texts5 (by decide) (by decide)
  refine ⟨s, i1, q1, ?_, hi1, ?_⟩
  · have : ∀ s ∈ texts5, s.length ≤ 60 := by decide
    exact this s hs
  · refine run_code (b := spec_l05Text.m) hm ⟨0, ?_⟩
    simp only [texts5, List.map_cons, List.map_nil, bs] at h1 ⊢
    simp (maxSteps := 1000000) [exB, spec_l05Text.m, spec_l05Text.b, List.range_succ, bs_get, setAt, h1]
end Mx

namespace Mx
open Go
def gput (l : List Int) (x : Int) : List Int := l.filter (fun y => decide (y < x)) ++ [x] ++ l.filter (fun y => decide (x < y))
def gadd (l : List Int) (x : Int) : List Int := if x ∈ l then l else gput l x
def joinGone (a b : List Int) : List Int := (a ++ b).foldl gadd []
abbrev Asc (l : List Int) : Prop := l.Pairwise (· < ·)
theorem asc_ext : ∀ {a b : List Int}, Asc a → Asc b → (∀ x, x ∈ a ↔ x ∈ b) → a = b
  | [], [], _, _, _ => rfl
  | [], y :: b, _, _, h => absurd ((h y).2 (List.mem_cons_self ..)) (by simp)
  | x :: a, [], _, _, h => absurd ((h x).1 (List.mem_cons_self ..)) (by simp)
  | x :: a, y :: b, ha, hb, h => by
    obtain ⟨ha1, ha2⟩ := List.pairwise_cons.1 ha
    obtain ⟨hb1, hb2⟩ := List.pairwise_cons.1 hb
    have e : x = y := by
      rcases List.mem_cons.1 ((h x).1 (List.mem_cons_self ..)) with q | q
      · exact q
      · rcases List.mem_cons.1 ((h y).2 (List.mem_cons_self ..)) with q' | q'
        · exact q'.symm
        · have := ha1 y q'; have := hb1 x q; omega
    subst e
    congr 1
    refine asc_ext ha2 hb2 fun z => ⟨fun hz => ?_, fun hz => ?_⟩
    · rcases List.mem_cons.1 ((h z).1 (List.mem_cons_of_mem _ hz)) with q | q
      · have := ha1 z hz; omega
      · exact q
    · rcases List.mem_cons.1 ((h z).2 (List.mem_cons_of_mem _ hz)) with q | q
      · have := hb1 z hz; omega
      · exact q
theorem gput_mem {l : List Int} {x z : Int} : z ∈ gput l x ↔ z = x ∨ z ∈ l := by
  simp only [gput, List.mem_append, List.mem_filter, decide_eq_true_eq, List.mem_singleton]
  constructor
  · rintro ((⟨h, _⟩ | h) | ⟨h, _⟩)
    · exact .inr h
    · exact .inl h
    · exact .inr h
  · rintro (h | h)
    · exact .inl (.inr h)
    · by_cases c : z < x
      · exact .inl (.inl ⟨h, c⟩)
      · by_cases c2 : z = x
        · exact .inl (.inr c2)
        · exact .inr ⟨h, by omega⟩
theorem gput_asc {l : List Int} {x : Int} (h : Asc l) : Asc (gput l x) := by
  simp only [gput, Asc, List.pairwise_append, List.pairwise_singleton, List.mem_filter, decide_eq_true_eq, List.mem_singleton, List.mem_append]
  refine ⟨⟨h.filter _, trivial, ?_⟩, h.filter _, ?_⟩
  · rintro a ⟨_, ha⟩ b rfl; exact ha
  · rintro a (⟨_, ha⟩ | rfl) b ⟨_, hb⟩ <;> omega
theorem gadd_mem {l : List Int} {x z : Int} : z ∈ gadd l x ↔ z = x ∨ z ∈ l := by
  unfold gadd; split
  · rename_i h
    constructor
    · exact .inr
    · rintro (rfl | q)
      · exact h
      · exact q
  · exact gput_mem
theorem gadd_asc {l : List Int} {x : Int} (h : Asc l) : Asc (gadd l x) := by
  unfold gadd; split
  · exact h
  · exact gput_asc h
theorem gfold_mem : ∀ (l acc : List Int) (z : Int), z ∈ l.foldl gadd acc ↔ z ∈ l ∨ z ∈ acc
  | [], acc, z => by simp
  | x :: l, acc, z => by
    simp only [List.foldl_cons, gfold_mem l, gadd_mem, List.mem_cons]
    constructor
    · rintro (h | h | h)
      · exact .inl (.inr h)
      · exact .inl (.inl h)
      · exact .inr h
    · rintro ((h | h) | h)
      · exact .inr (.inl h)
      · exact .inl h
      · exact .inr (.inr h)
theorem gfold_asc : ∀ (l acc : List Int), Asc acc → Asc (l.foldl gadd acc)
  | [], acc, h => h
  | x :: l, acc, h => gfold_asc l _ (gadd_asc h)
theorem joinGone_asc (a b : List Int) : Asc (joinGone a b) := gfold_asc _ _ List.Pairwise.nil
theorem joinGone_mem (a b : List Int) (z : Int) : z ∈ joinGone a b ↔ z ∈ a ∨ z ∈ b := by unfold joinGone; rw [gfold_mem]; simp
theorem gadd_len (l : List Int) (x : Int) : (gadd l x).length ≤ l.length + 1 := by
  unfold gadd; split
  · omega
  · simp only [gput, List.length_append, List.length_singleton]
    have : ∀ l : List Int, (l.filter fun y => decide (y < x)).length + (l.filter fun y => decide (x < y)).length ≤ l.length := by
      intro l
      induction l with
      | nil => simp
      | cons y l ih =>
        simp only [List.filter_cons]
        by_cases h1 : y < x
        · have h2 : ¬ x < y := by omega
          simp [h1, h2]; omega
        · by_cases h2 : x < y
          · simp [h1, h2]; omega
          · simp [h1, h2]; omega
    have := this l
    omega
theorem gfold_len : ∀ (l acc : List Int), (l.foldl gadd acc).length ≤ l.length + acc.length
  | [], acc => by simp
  | x :: l, acc => by
    have h1 := gfold_len l (gadd acc x)
    have h2 := gadd_len acc x
    simp only [List.foldl_cons, List.length_cons]; omega
/-- runs of equal numbers become one -/
def dedup : List Int → List Int
  | [] => []
  | x :: l => x :: (go x l)
where go : Int → List Int → List Int
  | _, [] => []
  | p, x :: l => if x = p then go x l else x :: go x l
theorem dedup_go_mem : ∀ (l : List Int) (p z : Int), z ∈ dedup.go p l → z ∈ l
  | [], p, z, h => by simp [dedup.go] at h
  | x :: l, p, z, h => by
    simp only [dedup.go] at h
    split at h
    · exact List.mem_cons_of_mem _ (dedup_go_mem l x z h)
    · rcases List.mem_cons.1 h with rfl | h
      · exact List.mem_cons_self ..
      · exact List.mem_cons_of_mem _ (dedup_go_mem l x z h)
theorem mem_dedup_go : ∀ (l : List Int) (p z : Int), z ∈ l → z = p ∨ z ∈ dedup.go p l
  | [], p, z, h => by simp at h
  | x :: l, p, z, h => by
    simp only [dedup.go]
    split
    · rename_i e
      subst e
      rcases List.mem_cons.1 h with q | q
      · exact .inl q
      · exact mem_dedup_go l x z q
    · rcases List.mem_cons.1 h with q | q
      · exact .inr (by rw [q]; exact List.mem_cons_self ..)
      · rcases mem_dedup_go l x z q with q | q
        · exact .inr (by rw [q]; exact List.mem_cons_self ..)
        · exact .inr (List.mem_cons_of_mem _ q)
theorem dedup_go_asc : ∀ (l : List Int) (p : Int), l.Pairwise (· ≤ ·) → (∀ z ∈ l, p ≤ z) → Asc (dedup.go p l) ∧ ∀ z ∈ dedup.go p l, p < z
  | [], p, _, _ => by simp [dedup.go]
  | x :: l, p, h, hp => by
    obtain ⟨h1, h2⟩ := List.pairwise_cons.1 h
    have hx := hp x (List.mem_cons_self ..)
    obtain ⟨k1, k2⟩ := dedup_go_asc l x h2 h1
    simp only [dedup.go]
    split
    · rename_i e; exact ⟨k1, fun z hz => by have := k2 z hz; omega⟩
    · rename_i e
      refine ⟨List.pairwise_cons.2 ⟨k2, k1⟩, fun z hz => ?_⟩
      rcases List.mem_cons.1 hz with rfl | hz
      · omega
      · have := k2 z hz; omega
theorem dedup_asc {l : List Int} (h : l.Pairwise (· ≤ ·)) : Asc (dedup l) := by
  cases l with
  | nil => exact List.Pairwise.nil
  | cons x l =>
    obtain ⟨h1, h2⟩ := List.pairwise_cons.1 h
    obtain ⟨k1, k2⟩ := dedup_go_asc l x h2 h1
    exact List.pairwise_cons.2 ⟨k2, k1⟩
theorem dedup_mem {l : List Int} {z : Int} : z ∈ dedup l ↔ z ∈ l := by
  cases l with
  | nil => simp [dedup]
  | cons x l =>
    simp only [dedup, List.mem_cons]
    constructor
    · rintro (h | h)
      · exact .inl h
      · exact .inr (dedup_go_mem l x z h)
    · rintro (h | h)
      · exact .inl h
      · exact mem_dedup_go l x z h
/-- the kit's word for it -/
theorem compact_dedup (l : List Int) : Lib.compact l = dedup l := by
  have key : ∀ (d : Array Int) (m : Nat) (l : List Int) (p : Int), 0 < m → m + l.length = d.size → d.toList.drop m = l → d[m - 1]! = p → ((List.range' m l.length).filter (Lib.keeps d)).map (d[·]!) = dedup.go p l := by
    intro d m l
    induction l generalizing m with
    | nil => intro p _ _ _ _; rfl
    | cons x l ih =>
      intro p hm hl hd hp
      have hlt : m < d.size := by simp at hl; omega
      have hx : d[m]! = x := by
        rw [getElem!_pos d m hlt]
        have := congrArg (·[0]?) hd
        simpa [hlt] using this
      have ih' := ih (m + 1) x (by omega) (by simp at hl; omega) (by rw [← List.tail_drop, hd]; rfl) (by simpa using hx)
      simp only [List.length_cons, List.range'_succ, List.filter_cons, dedup.go]
      by_cases e : x = p
      · have hk : Lib.keeps d m = false := Lib.keeps_neg hm (by rw [hx, hp, e])
        rw [if_pos e, hk]; simpa using ih'
      · have hk : Lib.keeps d m = true := Lib.keeps_pos (by rw [hx, hp]; exact e)
        rw [if_neg e, hk]; simp only [if_true, List.map_cons, hx, ih']
  cases l with
  | nil => rfl
  | cons x l =>
    have hk : Lib.keeps (x :: l).toArray 0 = true := Lib.keeps_lt_one _ 0 (by omega)
    unfold Lib.compact Lib.compactUpTo
    rw [List.range_eq_range', List.length_cons, List.range'_succ, List.filter_cons, hk]
    simp only [if_true, List.map_cons, dedup]
    congr 1
    exact key (x :: l).toArray 1 l x (by omega) (by simp; omega) (by simp) (by simp)
theorem compact_len (l : List Int) : (Lib.compact l).length ≤ l.length := by
  unfold Lib.compact Lib.compactUpTo
  rw [List.length_map]
  refine Nat.le_trans (List.length_filter_le _ _) ?_
  simp
theorem joinGone_sort (a b : List Int) : Lib.compact (sortI (a ++ b)) = joinGone a b := by
  rw [compact_dedup]
  have hs : (sortI (a ++ b)).Pairwise (· ≤ ·) := by
    have := List.pairwise_mergeSort (le := fun x y : Int => decide (x ≤ y)) (fun a b c h1 h2 => by simp only [decide_eq_true_eq] at *; omega) (fun a b => by simp only [Bool.or_eq_true, decide_eq_true_eq]; omega) (a ++ b)
    exact this.imp fun h => by simpa using h
  refine asc_ext (dedup_asc hs) (joinGone_asc a b) fun z => ?_
  rw [dedup_mem, joinGone_mem]
  simp [sortI]
end Mx

namespace Mx
open Go
variable {M : Nat → Option Body}
theorem impl_copyInts.says (h : impl_copyInts.k M) (l : List Int) (hx : l.length ≤ 1048576) : run M 134 [.c (ints l)] [] = some (.c (.sl true 1 (irow l)), []) := by
  have h1 : l.length ≤ 4294967296 := by omega
  refine run_code (b := impl_copyInts.m) h ⟨0, ?_⟩
  simp [exB, impl_copyInts.m, impl_copyInts.b, List.range_succ, List.take_of_length_le, h1]
end Mx

namespace Mx
open Go
variable {M : Nat → Option Body}
theorem spec_l01In.says (h : spec_l01In.k M) (n a b : Int) : run M 98 [.c (I n), .c (I a), .c (I b)] [] = some (.c (.bool (decide (a ≤ n) && decide (n ≤ b))), []) := by
  refine run_code (b := spec_l01In.m) h ⟨0, ?_⟩
  by_cases h : a ≤ n
  · have h' : n ≥ a := h
    simp [exB, spec_l01In.m, spec_l01In.b, List.range_succ, h]
  · have h' : ¬ n ≥ a := h
    simp [exB, spec_l01In.m, spec_l01In.b, List.range_succ, h]
end Mx

namespace Mx
open Go
variable {M : Nat → Option Body}
structure Reg where
  val : Int
  time : Int
  who : Int
structure Mail where
  gid : Int
  uid : Int
  flags : List Reg
  text : List UInt8
structure Box where
  gid : Int
  name : List UInt8
  time : Int
  who : Int
  next : Int
  mails : List Mail
  gone : List Int
abbrev encReg (r : Reg) : List T := [I r.val, I r.time, I r.who]
abbrev regs (l : List Reg) : T := .sl false 3 (l.map encReg)
abbrev encMail (m : Mail) : List T := [I m.gid, I m.uid, regs m.flags, S m.text]
abbrev mails (l : List Mail) : T := .sl false 4 (l.map encMail)
abbrev encBox (b : Box) : List T := [I b.gid, S b.name, I b.time, I b.who, I b.next, mails b.mails, ints b.gone]
/-- as their own -/
abbrev encMailO (m : Mail) : List T := [I m.gid, I m.uid, .sl true 3 (m.flags.map encReg), S m.text]
abbrev encBoxO (b : Box) : List T := [I b.gid, S b.name, I b.time, I b.who, I b.next, .sl true 4 (b.mails.map encMail), .sl true 1 (irow b.gone)]
theorem has_int {k : IntKind} {u : T} (h : Has (.int k) u) : ∃ n, u = .int k n := by cases h; exact ⟨_, rfl⟩
end Mx

namespace Mx
open Go
variable {M : Nat → Option Body}
/-- the first mail of this number, from a place on -/
def atO (l : List Mail) (g : Int) : Nat → Nat → Option Nat
  | 0, _ => none
  | d + 1, i => if h : i < l.length then (if l[i].gid = g then some i else atO l g d (i + 1)) else none
def mailO (l : List Mail) (g : Int) : Option Nat := atO l g l.length 0
def intO : Option Nat → Int
  | some i => i
  | none => -1
theorem atO_lt (l : List Mail) (g : Int) : ∀ d i k, atO l g d i = some k → k < l.length
  | 0, i, k, h => by simp [atO] at h
  | d + 1, i, k, h => by
    rw [atO] at h
    by_cases hl : i < l.length
    · rw [dif_pos hl] at h
      split at h
      · cases h; exact hl
      · exact atO_lt l g d (i + 1) k h
    · rw [dif_neg hl] at h; cases h
def atFin (q : Option Nat) (m : St) : Out × St := match q with
  | some i => (.ret, { t := [(4, .c (I i))], o := [], n := m.n })
  | none => (.exit 0, m)
theorem atFin_ne (q : Option Nat) (m : St) : (atFin q m).1 ≠ .normal := by cases q <;> simp [atFin]
/-- the loop of either -/
theorem at_loop {f : St → Option (Out × St)} {β : Type} (l : List Mail) (g : Int) (S : Nat → β → St)
    (h1 : ∀ i (h : i < l.length) x, l[i].gid = g → ∃ m, f (S i x) = some (atFin (some i) m)) (h2 : ∀ i (h : i < l.length) x, ¬ l[i].gid = g → ∃ y, f (S i x) = some (.normal, S (i + 1) y))
    (h3 : ∀ x, ∃ m, f (S l.length x) = some (atFin none m)) : ∃ g' : β → St, ∀ x, loopN f (l.length + 1) (S 0 x) = some (atFin (mailO l g) (g' x)) := by
  refine loop_all (f := f) S (fun i => i ≤ l.length) (fun i => l.length - i) (fun i => atO l g (l.length - i) i) atFin ?_ (l.length + 1) 0 (Nat.zero_le _) (by omega)
  intro i x hi
  by_cases hlt : i < l.length
  · have hd : l.length - i = (l.length - (i + 1)) + 1 := by omega
    have hg : atO l g (l.length - i) i = if l[i].gid = g then some i else atO l g (l.length - (i + 1)) (i + 1) := by rw [hd, atO, dif_pos hlt]
    simp only [hg]
    by_cases c : l[i].gid = g
    · right
      obtain ⟨m, hm⟩ := h1 i hlt x c
      rw [if_pos c]
      exact ⟨m, hm, atFin_ne _ _⟩
    · left
      obtain ⟨y, hy⟩ := h2 i hlt x c
      rw [if_neg c]
      exact ⟨i + 1, y, hy, hlt, by omega, rfl⟩
  · have : i = l.length := by omega
    subst this
    right
    obtain ⟨m, hm⟩ := h3 x
    simp only [Nat.sub_self, atO]
    exact ⟨m, hm, atFin_ne _ _⟩
def spAtS (b : Box) (g : Int) (i : Nat) (x : Nat × Nat) : St := { t := [(1, .c (I g)), (2, .c (.ptr 2 x.1 0 0)), (5, .c (I i))], o := [(2, ⟨x.1, 7, true, true, [encBox b]⟩)], n := x.2 }
theorem spec_MailAt.says (h : spec_MailAt.k M) (b : Box) (g : Int) (hb : b.mails.length ≤ 1048576) : run M 91 [.a (encBox b), .c (I g)] [] = some (.c (I (intO (mailO b.mails g))), []) := by
  refine run_code (b := spec_MailAt.m) h ⟨b.mails.length + 1, ?_⟩
  obtain ⟨g', hr⟩ := at_loop (f := exC (run M) (b.mails.length + 1) spec_MailAt.l0) b.mails g (spAtS b g)
    (fun i hi x c => by
      obtain ⟨v, x⟩ := x
      simp [spAtS, spec_MailAt.l0, hi, c, encMail, atFin]
      exact ⟨⟨[], [], _⟩, rfl⟩)
    (fun i hi x c => by
      obtain ⟨v, x⟩ := x
      have e5 : IntKind.i64.wrap ((i : Int) + 1) = (i : Int) + 1 := wrap_i64 (by omega) (by omega)
      simp only [Prod.exists]
      simp [spAtS, spec_MailAt.l0, hi, c, encMail, e5])
    (fun x => by
      obtain ⟨v, x⟩ := x
      simp [spAtS, spec_MailAt.l0, atFin])
  cases hm : mailO b.mails g with
  | none =>
    simp [spAtS, hm, atFin] at hr
    simp [exB, spec_MailAt.m, spec_MailAt.b, List.range_succ, hr, intO]
  | some k =>
    simp [spAtS, hm, atFin] at hr
    simp [exB, spec_MailAt.m, spec_MailAt.b, List.range_succ, hr, intO]
theorem impl_MailAt_1.says (h : impl_MailAt_1.k M) (m : Mail) (g : Int) : run M 160 [.a (encMail m), .c (.vp [I g] 0)] [] = some (.c (.bool (decide (m.gid = g))), []) := by
  refine run_code (b := impl_MailAt_1.m) h ⟨0, ?_⟩
  simp [exB, impl_MailAt_1.m, impl_MailAt_1.b, List.range_succ]
def ixS (l : List Mail) (g : Int) (i : Nat) (x : Nat) : St := { t := [(0, .c (mails l)), (1, .c (.fn 160 [.vp [I g] 0])), (7, .c (I l.length)), (8, .c (I i))], o := [], n := x }
theorem slices_IndexFunc_impl_Mail_impl_Mail.says (h : slices_IndexFunc_impl_Mail_impl_Mail.k M) (h2 : impl_MailAt_1.k M) (l : List Mail) (g : Int) (hl : l.length ≤ 1048576) :
    run M 161 [.c (mails l), .c (.fn 160 [.vp [I g] 0])] [] = some (.c (I (intO (mailO l g))), []) := by
  refine run_code (b := slices_IndexFunc_impl_Mail_impl_Mail.m) h ⟨l.length + 1, ?_⟩
  obtain ⟨g', hr⟩ := at_loop (f := exC (run M) (l.length + 1) slices_IndexFunc_impl_Mail_impl_Mail.l0) l g (ixS l g)
    (fun i hi x c => by
      have hm := impl_MailAt_1.says h2 l[i] g
      rw [decide_eq_true c] at hm
      simp [ixS, slices_IndexFunc_impl_Mail_impl_Mail.l0, hi, hm, encMail, atFin]
      exact ⟨⟨[], [], _⟩, rfl⟩)
    (fun i hi x c => by
      have hm := impl_MailAt_1.says h2 l[i] g
      rw [decide_eq_false c] at hm
      have e5 : IntKind.i64.wrap ((i : Int) + 1) = (i : Int) + 1 := wrap_i64 (by omega) (by omega)
      simp [ixS, slices_IndexFunc_impl_Mail_impl_Mail.l0, hi, hm, encMail, e5])
    (fun x => by simp [ixS, slices_IndexFunc_impl_Mail_impl_Mail.l0, atFin])
  cases hm : mailO l g with
  | none =>
    simp [ixS, hm, atFin] at hr
    simp [exB, slices_IndexFunc_impl_Mail_impl_Mail.m, slices_IndexFunc_impl_Mail_impl_Mail.b, List.range_succ, hr, intO]
  | some k =>
    simp [ixS, hm, atFin] at hr
    simp [exB, slices_IndexFunc_impl_Mail_impl_Mail.m, slices_IndexFunc_impl_Mail_impl_Mail.b, List.range_succ, hr, intO]
theorem impl_MailAt.says (h : impl_MailAt.k M) (b : Box) (g : Int) (hb : b.mails.length ≤ 1048576) : run M 72 [.a (encBox b), .c (I g)] [] = some (.c (I (intO (mailO b.mails g))), []) := by
  have h1 := slices_IndexFunc_impl_Mail_impl_Mail.says h.2.2 h.2.1 b.mails g hb
  refine run_code (b := impl_MailAt.m) h.1 ⟨0, ?_⟩
  simp [exB, impl_MailAt.m, impl_MailAt.b, List.range_succ, h1]
def holds (b : Box) (g : Int) : Bool := decide (0 ≤ intO (mailO b.mails g))
theorem impl_Holds.says (h : impl_Holds.k M) (b : Box) (g : Int) (hb : b.mails.length ≤ 1048576) : run M 20 [.a (encBox b), .c (I g)] [] = some (.c (.bool (holds b g)), []) := by
  have h1 := impl_MailAt.says h.2 b g hb
  refine run_code (b := impl_Holds.m) h.1 ⟨0, ?_⟩
  simp [exB, impl_Holds.m, impl_Holds.b, List.range_succ, h1, holds, List.take_of_length_le]
end Mx

namespace Mx
open Go
/-- the first place from i on, of the d places there, of which p says yes -/
def firstF (p : Nat → Bool) : Nat → Nat → Option Nat
  | 0, _ => none
  | d + 1, i => if p i = true then some i else firstF p d (i + 1)
def firstN (p : Nat → Bool) (n : Nat) : Option Nat := firstF p n 0
theorem firstF_none (p : Nat → Bool) : ∀ d i, firstF p d i = none → ∀ j, i ≤ j → j < i + d → p j = false
  | 0, i, _, j, h1, h2 => by omega
  | d + 1, i, h, j, h1, h2 => by
    rw [firstF] at h
    split at h
    · cases h
    · by_cases e : j = i
      · subst e; simpa using ‹¬p j = true›
      · exact firstF_none p d (i + 1) h j (by omega) (by omega)
theorem firstF_some (p : Nat → Bool) : ∀ d i k, firstF p d i = some k → i ≤ k ∧ k < i + d ∧ p k = true ∧ ∀ j, i ≤ j → j < k → p j = false
  | d + 1, i, k, h => by
    rw [firstF] at h
    split at h
    · cases h
      exact ⟨by omega, by omega, ‹_›, fun j h1 h2 => by omega⟩
    · obtain ⟨h1, h2, h3, h4⟩ := firstF_some p d (i + 1) k h
      refine ⟨by omega, by omega, h3, fun j h5 h6 => ?_⟩
      by_cases e : j = i
      · subst e; simpa using ‹¬p j = true›
      · exact h4 j (by omega) h6
theorem firstN_none {p : Nat → Bool} {n : Nat} (h : firstN p n = none) : ∀ j, j < n → p j = false := fun j hj => firstF_none p n 0 h j (by omega) (by omega)
theorem firstN_some {p : Nat → Bool} {n k : Nat} (h : firstN p n = some k) : k < n ∧ p k = true ∧ ∀ j, j < k → p j = false := by
  obtain ⟨_, h2, h3, h4⟩ := firstF_some p n 0 k h
  exact ⟨by omega, h3, fun j hj => h4 j (by omega) hj⟩
theorem firstN_isNone {p : Nat → Bool} {n : Nat} : firstN p n = none ↔ ∀ j, j < n → p j = false := by
  refine ⟨firstN_none, fun h => ?_⟩
  cases q : firstN p n with
  | none => rfl
  | some k =>
    obtain ⟨h1, h2, _⟩ := firstN_some q
    rw [h k h1] at h2; cases h2
theorem first_loop {γ β : Type} (n : Nat) (p : Nat → Bool) {f : St → Option (Out × St)} (S : Nat → β → St) (fin : Option Nat → γ → Out × St) (hfin : ∀ q m, (fin q m).1 ≠ .normal)
    (h1 : ∀ i, i < n → ∀ x, p i = false → ∃ y, f (S i x) = some (.normal, S (i + 1) y)) (h2 : ∀ i, i < n → ∀ x, p i = true → ∃ m, f (S i x) = some (fin (some i) m))
    (h3 : ∀ x, ∃ m, f (S n x) = some (fin none m)) : ∃ g : β → γ, ∀ x, loopN f (n + 1) (S 0 x) = some (fin (firstN p n) (g x)) := by
  refine loop_all (f := f) S (fun i => i ≤ n) (fun i => n - i) (fun i => firstF p (n - i) i) fin ?_ (n + 1) 0 (Nat.zero_le _) (by omega)
  intro i x hi
  by_cases hlt : i < n
  · have hd : n - i = (n - (i + 1)) + 1 := by omega
    have hg : firstF p (n - i) i = if p i = true then some i else firstF p (n - (i + 1)) (i + 1) := by rw [hd, firstF]
    simp only [hg]
    by_cases c : p i = true
    · right
      obtain ⟨m, hm⟩ := h2 i hlt x c
      rw [if_pos c]
      exact ⟨m, hm, hfin _ _⟩
    · left
      obtain ⟨y, hy⟩ := h1 i hlt x (by simpa using c)
      rw [if_neg c]
      exact ⟨i + 1, y, hy, hlt, by omega, rfl⟩
  · have : i = n := by omega
    subst this
    right
    obtain ⟨m, hm⟩ := h3 x
    simp only [Nat.sub_self, firstF]
    exact ⟨m, hm, hfin _ _⟩
theorem loopN_le {f : St → Option (Out × St)} {n m : Nat} {s : St} {r : Out × St} (h : loopN f n s = some r) (hm : n ≤ m) : loopN f m s = some r := loopN_mono (fun _ _ h => h) hm h
/-- a loop that answers w at the first place found, and goes on behind itself if there is none -/
def fin1 {β : Type} (r : Nat) (w : T) (e : Nat) (E : β → St) (q : Option Nat) (m : β × Nat) : Out × St := match q with
  | none => (.exit e, E m.1)
  | some _ => (.ret, { t := [(r, .c w)], o := [], n := m.2 })
theorem early_loop {β : Type} (n : Nat) (p : Nat → Bool) {f : St → Option (Out × St)} (S : Nat → β → St) (r : Nat) (w : T) (e : Nat) (E : β → St)
    (h1 : ∀ i, i < n → ∀ x, p i = false → ∃ y, f (S i x) = some (.normal, S (i + 1) y)) (h2 : ∀ i, i < n → ∀ x, p i = true → ∃ k, f (S i x) = some (.ret, { t := [(r, .c w)], o := [], n := k }))
    (h3 : ∀ x, ∃ y, f (S n x) = some (.exit e, E y)) : ∃ g : β → β × Nat, ∀ x, loopN f (n + 1) (S 0 x) = some (fin1 r w e E (firstN p n) (g x)) :=
  first_loop n p S (fin1 r w e E) (fun q m => by cases q <;> simp [fin1]) h1 (fun i hi x c => by
    obtain ⟨k, hk⟩ := h2 i hi x c
    exact ⟨(x, k), hk⟩) (fun x => by
    obtain ⟨y, hy⟩ := h3 x
    exact ⟨(y, 0), hy⟩)
/-- a loop that goes through a whole list with what it has so far -/
theorem fold_loop {α σ β γ : Type} (l : List α) (step : σ → α → σ) (Inv : Nat → σ → Prop) {f : St → Option (Out × St)} (S : Nat → σ → β → St) (e : Nat) (E : σ → γ → St)
    (hI : ∀ i (h : i < l.length) s, Inv i s → Inv (i + 1) (step s l[i]))
    (h1 : ∀ i (h : i < l.length) s x, Inv i s → ∃ y, f (S i s x) = some (.normal, S (i + 1) (step s l[i]) y))
    (h3 : ∀ s x, Inv l.length s → ∃ y, f (S l.length s x) = some (.exit e, E s y)) (s : σ) (h0 : Inv 0 s) :
    ∃ g : β → γ, ∀ x, loopN f (l.length + 1) (S 0 s x) = some (.exit e, E (l.foldl step s) (g x)) := by
  refine loop_all (f := f) (fun p : Nat × σ => S p.1 p.2) (fun p => p.1 ≤ l.length ∧ Inv p.1 p.2) (fun p => l.length - p.1) (fun p => (l.drop p.1).foldl step p.2) (fun q m => (.exit e, E q m)) ?_ (l.length + 1) (0, s) ⟨Nat.zero_le _, h0⟩ (by simp)
  rintro ⟨i, s⟩ x ⟨hi, hs⟩
  simp only at hi hs
  by_cases hlt : i < l.length
  · left
    obtain ⟨y, hy⟩ := h1 i hlt s x hs
    refine ⟨(i + 1, step s l[i]), y, hy, ⟨hlt, hI i hlt s hs⟩, by simp only; omega, ?_⟩
    simp only
    rw [List.drop_eq_getElem_cons hlt, List.foldl_cons]
  · have : i = l.length := by omega
    subst this
    right
    obtain ⟨y, hy⟩ := h3 s x hs
    exact ⟨y, by simp [hy], by simp⟩
theorem foldl_inv {α σ : Type} (l : List α) (step : σ → α → σ) (Inv : Nat → σ → Prop) (hI : ∀ i (h : i < l.length) s, Inv i s → Inv (i + 1) (step s l[i])) : ∀ s, Inv 0 s → Inv l.length (l.foldl step s) := by
  have key : ∀ d i s, i + d = l.length → Inv i s → Inv l.length ((l.drop i).foldl step s) := by
    intro d
    induction d with
    | zero => intro i s hi h; have : i = l.length := by omega
              subst this; simpa using h
    | succ d ih =>
      intro i s hi h
      have hlt : i < l.length := by omega
      rw [List.drop_eq_getElem_cons hlt, List.foldl_cons]
      exact ih (i + 1) _ (by omega) (hI i hlt s h)
  intro s h
  simpa using key l.length 0 s (by omega) h
/-- texts one behind the other -/
def texts {α : Type} (t : α → List UInt8) (l : List α) : List UInt8 := l.flatMap t
end Mx

namespace Mx
open Go
variable {M : Nat → Option Body}
def inR (a n b : Int) : Bool := decide (a ≤ n) && decide (n ≤ b)
theorem spec_l01In.inR (h : spec_l01In.k M) (n a b : Int) : run M 98 [.c (I n), .c (I a), .c (I b)] [] = some (.c (.bool (inR a n b)), []) := spec_l01In.says h n a b
def stampOk (t w : Int) : Bool := inR 0 t 100000 && inR 0 w 2
theorem spec_StampOk.says (h : spec_StampOk.k M) (t w : Int) : run M 183 [.a [I t, I w]] [] = some (.c (.bool (stampOk t w)), []) := by
  have h1 := spec_l01In.inR h.2 t 0 100000
  have h2 := spec_l01In.inR h.2 w 0 2
  refine run_code (b := spec_StampOk.m) h.1 ⟨0, ?_⟩
  cases c : inR 0 t 100000 <;> simp (maxSteps := 1000000) (disch := (first | omega | (simp; done) | (simp; omega))) [exB, spec_StampOk.m, spec_StampOk.b, List.range_succ, bs_get, List.take_of_length_le, setAt, str_add, h1, h2, c, stampOk]
def regOk (r : Reg) : Bool := stampOk r.time r.who && inR 0 r.val 1000000000
theorem spec_RegOk.says (h : spec_RegOk.k M) (r : Reg) : run M 276 [.a (encReg r)] [] = some (.c (.bool (regOk r)), []) := by
  have h1 := spec_StampOk.says h.2.2 r.time r.who
  have h2 := spec_l01In.inR h.2.1 r.val 0 1000000000
  refine run_code (b := spec_RegOk.m) h.1 ⟨0, ?_⟩
  cases c : stampOk r.time r.who <;> simp (maxSteps := 1000000) (disch := (first | omega | (simp; done) | (simp; omega))) [exB, spec_RegOk.m, spec_RegOk.b, List.range_succ, bs_get, List.take_of_length_le, setAt, str_add, h1, h2, c, regOk]
def badFlag (l : List Reg) (i : Nat) : Bool := match l[i]? with
  | some r => !regOk r || decide (1 < r.val)
  | none => false
def flagsOk (l : List Reg) : Bool := (firstN (badFlag l) l.length).isNone && decide (l.length = 3)
theorem badFlag_at {l : List Reg} {i : Nat} (h : i < l.length) : badFlag l i = (!regOk l[i] || decide (1 < l[i].val)) := by simp [badFlag, h]
def sfS (l : List Reg) (i : Nat) (x : Nat) : St := { t := [(0, .c (regs l)), (3, .c (I i))], o := [], n := x }
def sfE (l : List Reg) (x : Nat) : St := { t := [(0, .c (regs l)), (3, .c (I l.length)), (7, .c (.bool false))], o := [], n := x }
theorem spec_FlagsOk.says (h : spec_FlagsOk.k M) (l : List Reg) (hl : l.length ≤ 1048576) : run M 242 [.c (regs l)] [] = some (.c (.bool (flagsOk l)), []) := by
  refine run_code (b := spec_FlagsOk.m) h.1 ⟨l.length + 1, ?_⟩
  obtain ⟨g, hr⟩ := early_loop (f := exC (run M) (l.length + 1) spec_FlagsOk.l0) l.length (badFlag l) (sfS l) 2 (.bool false) 0 (sfE l)
    (fun i hi x c => by
      have e5 : IntKind.i64.wrap ((i : Int) + 1) = (i : Int) + 1 := wrap_i64 (by omega) (by omega)
      have hm := spec_RegOk.says h.2 l[i]
      rw [badFlag_at hi] at c
      simp at c
      simp only [encReg, c.1] at hm
      have c2 : ¬ (1 : Int) < l[i].val := by omega
      simp (maxSteps := 1000000) (disch := (first | omega | (simp; done) | (simp; omega))) [spec_FlagsOk.l0, List.range_succ, bs_get, List.take_of_length_le, setAt, str_add, sfS, hi, hm, encReg, c, c2, e5])
    (fun i hi x c => by
      have hm := spec_RegOk.says h.2 l[i]
      rw [badFlag_at hi] at c
      cases c1 : regOk l[i]
      · simp only [encReg, c1] at hm
        simp (maxSteps := 1000000) (disch := (first | omega | (simp; done) | (simp; omega))) [spec_FlagsOk.l0, List.range_succ, bs_get, List.take_of_length_le, setAt, str_add, sfS, hi, hm, encReg, c1]
      · simp [c1] at c
        simp only [encReg, c1] at hm
        simp (maxSteps := 1000000) (disch := (first | omega | (simp; done) | (simp; omega))) [spec_FlagsOk.l0, List.range_succ, bs_get, List.take_of_length_le, setAt, str_add, sfS, hi, hm, encReg, c1, c])
    (fun x => by simp (maxSteps := 1000000) (disch := (first | omega | (simp; done) | (simp; omega))) [spec_FlagsOk.l0, List.range_succ, bs_get, List.take_of_length_le, setAt, str_add, sfS, sfE])
  cases q : firstN (badFlag l) l.length with
  | none =>
    simp [sfS, sfE, q, fin1] at hr
    simp (maxSteps := 1000000) (disch := (first | omega | (simp; done) | (simp; omega))) [exB, spec_FlagsOk.m, spec_FlagsOk.b, List.range_succ, bs_get, List.take_of_length_le, setAt, str_add, hr, flagsOk, q]
    omega
  | some k =>
    simp [sfS, q, fin1] at hr
    simp (maxSteps := 1000000) (disch := (first | omega | (simp; done) | (simp; omega))) [exB, spec_FlagsOk.m, spec_FlagsOk.b, List.range_succ, bs_get, List.take_of_length_le, setAt, str_add, hr, flagsOk, q]
def mailOk (m : Mail) : Bool := inR 1 m.gid 9999 && inR 1 m.uid 9999 && flagsOk m.flags && decide (m.text.length ≤ 60)
theorem spec_MailOk.says (h : spec_MailOk.k M) (m : Mail) (hl : m.flags.length ≤ 1048576) : run M 187 [.a (encMail m)] [] = some (.c (.bool (mailOk m)), []) := by
  have h1 := spec_l01In.inR h.2.1 m.gid 1 9999
  have h2 := spec_l01In.inR h.2.1 m.uid 1 9999
  have h3 := spec_FlagsOk.says h.2.2 m.flags hl
  refine run_code (b := spec_MailOk.m) h.1 ⟨0, ?_⟩
  cases c1 : inR 1 m.gid 9999
  · simp (maxSteps := 1000000) (disch := (first | omega | (simp; done) | (simp; omega))) [exB, spec_MailOk.m, spec_MailOk.b, List.range_succ, bs_get, List.take_of_length_le, setAt, str_add, h1, c1, mailOk]
  cases c2 : inR 1 m.uid 9999
  · simp (maxSteps := 1000000) (disch := (first | omega | (simp; done) | (simp; omega))) [exB, spec_MailOk.m, spec_MailOk.b, List.range_succ, bs_get, List.take_of_length_le, setAt, str_add, h1, h2, c1, c2, mailOk]
  cases c3 : flagsOk m.flags
  · simp (maxSteps := 1000000) (disch := (first | omega | (simp; done) | (simp; omega))) [exB, spec_MailOk.m, spec_MailOk.b, List.range_succ, bs_get, List.take_of_length_le, setAt, str_add, h1, h2, h3, c1, c2, c3, mailOk]
  simp (maxSteps := 1000000) (disch := (first | omega | (simp; done) | (simp; omega))) [exB, spec_MailOk.m, spec_MailOk.b, List.range_succ, bs_get, List.take_of_length_le, setAt, str_add, h1, h2, h3, c1, c2, c3, mailOk]
  omega
def badSign (l : List UInt8) (i : Nat) : Bool := match l[i]? with
  | some b => (decide ((b.toNat : Int) < 97) || decide (122 < (b.toNat : Int))) && (decide ((b.toNat : Int) < 48) || decide (57 < (b.toNat : Int)))
  | none => false
theorem badSign_at {l : List UInt8} {i : Nat} (h : i < l.length) :
    badSign l i = ((decide ((l[i].toNat : Int) < 97) || decide (122 < (l[i].toNat : Int))) && (decide ((l[i].toNat : Int) < 48) || decide (57 < (l[i].toNat : Int)))) := by simp [badSign, h]
def nameOk (l : List UInt8) : Bool := (firstN (badSign l) l.length).isNone && inR 1 l.length 12
def snSS (l : List UInt8) (i : Nat) (x : Nat) : St := { t := [(0, .c (S l)), (3, .c (I i))], o := [], n := x }
def snSE (l : List UInt8) (x : Nat) : St := { t := [(0, .c (S l)), (3, .c (I l.length)), (7, .c (.bool false))], o := [], n := x }
theorem spec_NameOk.says (h : spec_NameOk.k M) (l : List UInt8) (hl : l.length ≤ 4611686018427387904) : run M 90 [.c (S l)] [] = some (.c (.bool (nameOk l)), []) := by
  have h1 := spec_l01In.inR h.2 l.length 1 12
  refine run_code (b := spec_NameOk.m) h.1 ⟨l.length + 1, ?_⟩
  obtain ⟨g, hr⟩ := early_loop (f := exC (run M) (l.length + 1) spec_NameOk.l0) l.length (badSign l) (snSS l) 2 (.bool false) 0 (snSE l)
    (fun i hi x c => by
      have e5 : IntKind.i64.wrap ((i : Int) + 1) = (i : Int) + 1 := wrap_i64 (by omega) (by omega)
      rw [badSign_at hi] at c
      generalize hb : ((l[i].toNat : Nat) : Int) = b at c
      by_cases c1 : b < 97
      · by_cases c2 : b < 48
        · simp [c1, c2] at c
        · by_cases c3 : 57 < b
          · simp [c1, c2, c3] at c
          · simp (maxSteps := 1000000) (disch := (first | omega | (simp; done) | (simp; omega))) [spec_NameOk.l0, List.range_succ, bs_get, List.take_of_length_le, setAt, str_add, snSS, hi, e5, hb, c1, c2, c3]
      · by_cases c4 : 122 < b
        · have c3 : 57 < b := by omega
          simp [c1, c4, c3] at c
        · simp (maxSteps := 1000000) (disch := (first | omega | (simp; done) | (simp; omega))) [spec_NameOk.l0, List.range_succ, bs_get, List.take_of_length_le, setAt, str_add, snSS, hi, e5, hb, c1, c4])
    (fun i hi x c => by
      rw [badSign_at hi] at c
      generalize hb : ((l[i].toNat : Nat) : Int) = b at c
      by_cases c1 : b < 97
      · by_cases c2 : b < 48
        · simp (maxSteps := 1000000) (disch := (first | omega | (simp; done) | (simp; omega))) [spec_NameOk.l0, List.range_succ, bs_get, List.take_of_length_le, setAt, str_add, snSS, hi, hb, c1, c2]
        · by_cases c3 : 57 < b
          · simp (maxSteps := 1000000) (disch := (first | omega | (simp; done) | (simp; omega))) [spec_NameOk.l0, List.range_succ, bs_get, List.take_of_length_le, setAt, str_add, snSS, hi, hb, c1, c2, c3]
          · simp [c1, c2, c3] at c
      · by_cases c4 : 122 < b
        · have c2 : ¬ b < 48 := by omega
          have c3 : 57 < b := by omega
          simp (maxSteps := 1000000) (disch := (first | omega | (simp; done) | (simp; omega))) [spec_NameOk.l0, List.range_succ, bs_get, List.take_of_length_le, setAt, str_add, snSS, hi, hb, c1, c2, c3, c4]
        · simp [c1, c4] at c)
    (fun x => by simp (maxSteps := 1000000) (disch := (first | omega | (simp; done) | (simp; omega))) [spec_NameOk.l0, List.range_succ, bs_get, List.take_of_length_le, setAt, str_add, snSS, snSE])
  cases q : firstN (badSign l) l.length with
  | none =>
    simp [snSS, snSE, q, fin1] at hr
    simp (maxSteps := 1000000) (disch := (first | omega | (simp; done) | (simp; omega))) [exB, spec_NameOk.m, spec_NameOk.b, List.range_succ, bs_get, List.take_of_length_le, setAt, str_add, hr, nameOk, q, h1]
  | some k =>
    simp [snSS, q, fin1] at hr
    simp (maxSteps := 1000000) (disch := (first | omega | (simp; done) | (simp; omega))) [exB, spec_NameOk.m, spec_NameOk.b, List.range_succ, bs_get, List.take_of_length_le, setAt, str_add, hr, nameOk, q]
def badGid (l : List Int) (i : Nat) : Bool := match l[i]? with
  | some g => !inR 1 g 9999 || (decide (0 < i) && match l[i - 1]? with | some f => decide (g ≤ f) | none => false)
  | none => false
theorem badGid_at {l : List Int} {i : Nat} (h : i < l.length) : badGid l i = (!inR 1 l[i] 9999 || (decide (0 < i) && decide (l[i] ≤ l[i - 1]))) := by
  simp [badGid, h, (show i - 1 < l.length by omega)]
def gidsOk (l : List Int) (most : Int) : Bool := (firstN (badGid l) l.length).isNone && decide ((l.length : Int) ≤ most)
def soS (l : List Int) (most : Int) (i : Nat) (x : Nat) : St := { t := [(0, .c (ints l)), (1, .c (I most)), (5, .c (I i))], o := [], n := x }
def soE (l : List Int) (most : Int) (x : Nat) : St := { t := [(0, .c (ints l)), (1, .c (I most)), (5, .c (I l.length)), (9, .c (.bool false))], o := [], n := x }
theorem spec_l06Sorted.says (h : spec_l06Sorted.k M) (l : List Int) (most : Int) (hl : l.length ≤ 4611686018427387904) : run M 186 [.c (ints l), .c (I most)] [] = some (.c (.bool (gidsOk l most)), []) := by
  refine run_code (b := spec_l06Sorted.m) h.1 ⟨l.length + 1, ?_⟩
  obtain ⟨g, hr⟩ := early_loop (f := exC (run M) (l.length + 1) spec_l06Sorted.l0) l.length (badGid l) (soS l most) 4 (.bool false) 0 (soE l most)
    (fun i hi x c => by
      have e5 : IntKind.i64.wrap ((i : Int) + 1) = (i : Int) + 1 := wrap_i64 (by omega) (by omega)
      have hm := spec_l01In.inR h.2 l[i] 1 9999
      rw [badGid_at hi] at c
      simp at c
      simp only [c.1] at hm
      by_cases c1 : 0 < i
      · have c2 : ¬ l[i] ≤ l[i - 1] := by have := c.2 c1; omega
        have e6 : IntKind.i64.wrap ((i : Int) - 1) = ((i - 1 : Nat) : Int) := by rw [wrap_i64 (by omega) (by omega)]; omega
        simp (maxSteps := 1000000) (disch := (first | omega | (simp; done) | (simp; omega))) [spec_l06Sorted.l0, List.range_succ, bs_get, List.take_of_length_le, setAt, str_add, soS, hi, hm, c1, c2, e5, e6, (show i - 1 < l.length by omega)]
      · simp (maxSteps := 1000000) (disch := (first | omega | (simp; done) | (simp; omega))) [spec_l06Sorted.l0, List.range_succ, bs_get, List.take_of_length_le, setAt, str_add, soS, hi, hm, c1, e5])
    (fun i hi x c => by
      have hm := spec_l01In.inR h.2 l[i] 1 9999
      rw [badGid_at hi] at c
      cases c1 : inR 1 l[i] 9999
      · simp only [c1] at hm
        simp (maxSteps := 1000000) (disch := (first | omega | (simp; done) | (simp; omega))) [spec_l06Sorted.l0, List.range_succ, bs_get, List.take_of_length_le, setAt, str_add, soS, hi, hm]
      · simp [c1] at c
        obtain ⟨c2, c3⟩ := c
        simp only [c1] at hm
        have e6 : IntKind.i64.wrap ((i : Int) - 1) = ((i - 1 : Nat) : Int) := by rw [wrap_i64 (by omega) (by omega)]; omega
        simp (maxSteps := 1000000) (disch := (first | omega | (simp; done) | (simp; omega))) [spec_l06Sorted.l0, List.range_succ, bs_get, List.take_of_length_le, setAt, str_add, soS, hi, hm, c2, c3, e6, (show i - 1 < l.length by omega)])
    (fun x => by simp (maxSteps := 1000000) (disch := (first | omega | (simp; done) | (simp; omega))) [spec_l06Sorted.l0, List.range_succ, bs_get, List.take_of_length_le, setAt, str_add, soS, soE])
  cases q : firstN (badGid l) l.length with
  | none =>
    simp [soS, soE, q, fin1] at hr
    simp (maxSteps := 1000000) (disch := (first | omega | (simp; done) | (simp; omega))) [exB, spec_l06Sorted.m, spec_l06Sorted.b, List.range_succ, bs_get, List.take_of_length_le, setAt, str_add, hr, gidsOk, q]
  | some k =>
    simp [soS, q, fin1] at hr
    simp (maxSteps := 1000000) (disch := (first | omega | (simp; done) | (simp; omega))) [exB, spec_l06Sorted.m, spec_l06Sorted.b, List.range_succ, bs_get, List.take_of_length_le, setAt, str_add, hr, gidsOk, q]
def isAt (l : List Int) (g : Int) (i : Nat) : Bool := match l[i]? with
  | some x => decide (x = g)
  | none => false
theorem isAt_at {l : List Int} {g : Int} {i : Nat} (h : i < l.length) : isAt l g i = decide (l[i] = g) := by simp [isAt, h]
theorem isAt_mem (l : List Int) (g : Int) : (firstN (isAt l g) l.length).isSome = decide (g ∈ l) := by
  rw [Bool.eq_iff_iff]
  simp only [decide_eq_true_eq]
  cases q : firstN (isAt l g) l.length with
  | none =>
    have := firstN_none q
    refine ⟨fun h => by simp at h, fun h => ?_⟩
    obtain ⟨i, hi, e⟩ := List.getElem_of_mem h
    have h1 := this i hi
    rw [isAt_at hi] at h1
    simp [e] at h1
  | some k =>
    obtain ⟨h1, h2, _⟩ := firstN_some q
    rw [isAt_at h1] at h2
    simp at h2
    refine ⟨fun _ => ?_, fun _ => rfl⟩
    rw [← h2]; exact List.getElem_mem h1
def siS (l : List Int) (g : Int) (i : Nat) (x : Nat) : St := { t := [(0, .c (ints l)), (1, .c (I g)), (5, .c (I i))], o := [], n := x }
def siE (l : List Int) (g : Int) (x : Nat) : St := { t := [(0, .c (ints l)), (1, .c (I g)), (5, .c (I l.length)), (9, .c (.bool false))], o := [], n := x }
theorem spec_l06In.says (h : spec_l06In.k M) (l : List Int) (g : Int) (hl : l.length ≤ 4611686018427387904) : run M 132 [.c (ints l), .c (I g)] [] = some (.c (.bool (decide (g ∈ l))), []) := by
  refine run_code (b := spec_l06In.m) h ⟨l.length + 1, ?_⟩
  obtain ⟨g', hr⟩ := early_loop (f := exC (run M) (l.length + 1) spec_l06In.l0) l.length (isAt l g) (siS l g) 4 (.bool true) 0 (siE l g)
    (fun i hi x c => by
      have e5 : IntKind.i64.wrap ((i : Int) + 1) = (i : Int) + 1 := wrap_i64 (by omega) (by omega)
      rw [isAt_at hi] at c
      simp at c
      simp (maxSteps := 1000000) (disch := (first | omega | (simp; done) | (simp; omega))) [spec_l06In.l0, List.range_succ, bs_get, List.take_of_length_le, setAt, str_add, siS, hi, e5, c])
    (fun i hi x c => by
      rw [isAt_at hi] at c
      simp at c
      simp (maxSteps := 1000000) (disch := (first | omega | (simp; done) | (simp; omega))) [spec_l06In.l0, List.range_succ, bs_get, List.take_of_length_le, setAt, str_add, siS, hi, c])
    (fun x => by simp (maxSteps := 1000000) (disch := (first | omega | (simp; done) | (simp; omega))) [spec_l06In.l0, List.range_succ, bs_get, List.take_of_length_le, setAt, str_add, siS, siE])
  have hm := isAt_mem l g
  rw [← hm]
  cases q : firstN (isAt l g) l.length with
  | none =>
    simp [siS, siE, q, fin1] at hr
    simp (maxSteps := 1000000) (disch := (first | omega | (simp; done) | (simp; omega))) [exB, spec_l06In.m, spec_l06In.b, List.range_succ, bs_get, List.take_of_length_le, setAt, str_add, hr]
  | some k =>
    simp [siS, q, fin1] at hr
    simp (maxSteps := 1000000) (disch := (first | omega | (simp; done) | (simp; omega))) [exB, spec_l06In.m, spec_l06In.b, List.range_succ, bs_get, List.take_of_length_le, setAt, str_add, hr]
def xiS (l : List Int) (g : Int) (i : Nat) (x : Nat) : St := { t := [(0, .c (ints l)), (1, .c (I g)), (7, .c (I l.length)), (8, .c (I i))], o := [], n := x }
theorem slices_Index_int_int.says (h : slices_Index_int_int.k M) (l : List Int) (g : Int) (hl : l.length ≤ 4611686018427387904) : run M 234 [.c (ints l), .c (I g)] [] = some (.c (I (intO (firstN (isAt l g) l.length))), []) := by
  refine run_code (b := slices_Index_int_int.m) h ⟨l.length + 1, ?_⟩
  obtain ⟨g', hr⟩ := first_loop (f := exC (run M) (l.length + 1) slices_Index_int_int.l0) l.length (isAt l g) (xiS l g) atFin atFin_ne
    (fun i hi x c => by
      have e5 : IntKind.i64.wrap ((i : Int) + 1) = (i : Int) + 1 := wrap_i64 (by omega) (by omega)
      rw [isAt_at hi] at c
      simp at c
      have c' : ¬ g = l[i] := fun q => c q.symm
      simp (maxSteps := 1000000) (disch := (first | omega | (simp; done) | (simp; omega))) [slices_Index_int_int.l0, List.range_succ, bs_get, List.take_of_length_le, setAt, str_add, xiS, hi, e5, c, c'])
    (fun i hi x c => by
      rw [isAt_at hi] at c
      simp at c
      simp (maxSteps := 1000000) (disch := (first | omega | (simp; done) | (simp; omega))) [slices_Index_int_int.l0, List.range_succ, bs_get, List.take_of_length_le, setAt, str_add, xiS, hi, c, atFin]
      exact ⟨⟨[], [], _⟩, rfl⟩)
    (fun x => by simp (maxSteps := 1000000) (disch := (first | omega | (simp; done) | (simp; omega))) [slices_Index_int_int.l0, List.range_succ, bs_get, List.take_of_length_le, setAt, str_add, xiS, atFin])
  cases q : firstN (isAt l g) l.length with
  | none =>
    simp [xiS, q, atFin] at hr
    simp (maxSteps := 1000000) (disch := (first | omega | (simp; done) | (simp; omega))) [exB, slices_Index_int_int.m, slices_Index_int_int.b, List.range_succ, bs_get, List.take_of_length_le, setAt, str_add, hr, intO]
  | some k =>
    simp [xiS, q, atFin] at hr
    simp (maxSteps := 1000000) (disch := (first | omega | (simp; done) | (simp; omega))) [exB, slices_Index_int_int.m, slices_Index_int_int.b, List.range_succ, bs_get, List.take_of_length_le, setAt, str_add, hr, intO]
theorem intO_pos (q : Option Nat) : decide (0 ≤ intO q) = q.isSome := by cases q <;> simp [intO]
theorem slices_Contains_int_int.says (h : slices_Contains_int_int.k M) (l : List Int) (g : Int) (hl : l.length ≤ 4611686018427387904) : run M 156 [.c (ints l), .c (I g)] [] = some (.c (.bool (decide (g ∈ l))), []) := by
  have h1 := slices_Index_int_int.says h.2 l g hl
  refine run_code (b := slices_Contains_int_int.m) h.1 ⟨0, ?_⟩
  rw [← isAt_mem l g, ← intO_pos]
  simp (maxSteps := 1000000) (disch := (first | omega | (simp; done) | (simp; omega))) [exB, slices_Contains_int_int.m, slices_Contains_int_int.b, List.range_succ, bs_get, List.take_of_length_le, setAt, str_add, h1]
end Mx

namespace Mx
open Go
variable {M : Nat → Option Body}
def guS (l : List Int) (x : Int) (i : Nat) (s : List Int) (m : Nat × Nat) : St := { t := [(0, .c (ints l)), (1, .c (I x)), (5, .c (.row 8 m.1 0 s.length)), (6, .c (I i))], o := [(8, ⟨m.1, 1, true, false, irow s⟩)], n := m.2 }
def guE (l : List Int) (x : Int) (s : List Int) (m : Nat × Nat) : St := { t := [(0, .c (ints l)), (1, .c (I x)), (5, .c (.row 8 m.1 0 s.length)), (6, .c (I l.length)), (12, .c (.bool false))], o := [(8, ⟨m.1, 1, true, false, irow s⟩)], n := m.2 }
def gvS (l : List Int) (x : Int) (i : Nat) (s : List Int) (m : Nat × Nat) : St := { t := [(0, .c (ints l)), (1, .c (I x)), (5, .c (.row 8 m.1 0 s.length)), (7, .c (I i))], o := [(8, ⟨m.1, 1, true, false, irow s⟩)], n := m.2 }
def gvE (l : List Int) (x : Int) (s : List Int) (m : Nat × Nat) : St := { t := [(0, .c (ints l)), (1, .c (I x)), (5, .c (.row 8 m.1 0 s.length)), (7, .c (I l.length)), (35, .c (.bool false))], o := [(8, ⟨m.1, 1, true, false, irow s⟩)], n := m.2 }
theorem filter_fold (p : Int → Bool) : ∀ (l s : List Int), l.foldl (fun s a => if p a = true then s ++ [a] else s) s = s ++ l.filter p
  | [], s => by simp
  | a :: l, s => by
    rw [List.foldl_cons, filter_fold p l, List.filter_cons]
    by_cases h : p a = true <;> simp [h]
theorem irow_snoc (s : List Int) (a : Int) : irow (s ++ [a]) = irow s ++ [[I a]] := by simp [irow]
theorem irow_length (s : List Int) : (irow s).length = s.length := by simp [irow]
theorem spec_l06Put.says (h : spec_l06Put.k M) (l : List Int) (x : Int) (hl : l.length ≤ 16777216) : run M 133 [.c (ints l), .c (I x)] [] = some (.c (.sl true 1 (irow (gput l x))), []) := by
  refine run_code (b := spec_l06Put.m) h ⟨l.length + 1, ?_⟩
  obtain ⟨g, hr⟩ := fold_loop (f := exC (run M) (l.length + 1) spec_l06Put.l0) l (fun s a => if decide (a < x) = true then s ++ [a] else s) (fun i s => s.length ≤ i) (guS l x) 0 (guE l x)
    (fun i h s hs => by split <;> (try simp) <;> omega)
    (fun i hi s m hs => by
      obtain ⟨v, m⟩ := m
      have e5 : IntKind.i64.wrap ((i : Int) + 1) = (i : Int) + 1 := wrap_i64 (by omega) (by omega)
      have e6 : s.length + 1 ≤ 4294967296 := by omega
      have e9 := irow_length s
      simp only [Prod.exists]
      by_cases c : l[i] < x
      · simp only [c, decide_true, if_true, guS, irow_snoc]
        generalize irow s = rr at *
        simp (maxSteps := 1000000) [spec_l06Put.l0, List.range_succ, bs_get, setAt, hi, c, e5, e6, e9, List.take_of_length_le]
      · simp only [c, decide_false, Bool.false_eq_true, if_false]
        simp (maxSteps := 1000000) [spec_l06Put.l0, List.range_succ, bs_get, setAt, guS, hi, c, e5])
    (fun s m hs => by
      obtain ⟨v, m⟩ := m
      simp only [Prod.exists]
      simp (maxSteps := 1000000) [spec_l06Put.l0, List.range_succ, bs_get, setAt, guS, guE]) [] (by simp)
  obtain ⟨g', hr'⟩ := fold_loop (f := exC (run M) (l.length + 1) spec_l06Put.l1) l (fun s a => if decide (x < a) = true then s ++ [a] else s) (fun i s => s.length ≤ l.length + 1 + i) (gvS l x) 2 (gvE l x)
    (fun i h s hs => by split <;> (try simp) <;> omega)
    (fun i hi s m hs => by
      obtain ⟨v, m⟩ := m
      have e5 : IntKind.i64.wrap ((i : Int) + 1) = (i : Int) + 1 := wrap_i64 (by omega) (by omega)
      have e6 : s.length + 1 ≤ 4294967296 := by omega
      have e9 := irow_length s
      simp only [Prod.exists]
      by_cases c : x < l[i]
      · simp only [c, decide_true, if_true, gvS, irow_snoc]
        generalize irow s = rr at *
        simp (maxSteps := 1000000) [spec_l06Put.l1, List.range_succ, bs_get, setAt, hi, c, e5, e6, e9, List.take_of_length_le]
      · simp only [c, decide_false, Bool.false_eq_true, if_false]
        simp (maxSteps := 1000000) [spec_l06Put.l1, List.range_succ, bs_get, setAt, gvS, hi, c, e5])
    (fun s m hs => by
      obtain ⟨v, m⟩ := m
      simp only [Prod.exists]
      simp (maxSteps := 1000000) [spec_l06Put.l1, List.range_succ, bs_get, setAt, gvS, gvE]) (l.filter (fun y => decide (y < x)) ++ [x]) (by have := List.length_filter_le (fun y => decide (y < x)) l; simp; omega)
  rw [filter_fold] at hr hr'
  have hfl := List.length_filter_le (fun y => decide (y < x)) l
  have e6 : (l.filter (fun y => decide (y < x))).length + 1 ≤ 4294967296 := by omega
  have e9 := irow_length (l.filter (fun y => decide (y < x)))
  have e10 := irow_length (l.filter (fun y => decide (y < x)) ++ [x] ++ l.filter (fun y => decide (x < y)))
  have e11 : (l.filter (fun y => decide (y < x)) ++ [x] ++ l.filter (fun y => decide (x < y))).length = (l.filter (fun y => decide (y < x))).length + ((l.filter (fun y => decide (x < y))).length + 1) := by simp only [List.length_append, List.length_singleton]; omega
  rw [e11] at e10
  have e12 := irow_snoc (l.filter (fun y => decide (y < x))) x
  unfold gput
  simp only [List.nil_append] at hr
  simp only [guS, guE, List.length_nil, e11] at hr
  simp only [gvS, gvE, e12, e11, List.length_append, List.length_singleton] at hr'
  generalize irow (l.filter (fun y => decide (y < x)) ++ [x] ++ l.filter (fun y => decide (x < y))) = r2 at *
  generalize irow (l.filter (fun y => decide (y < x))) = r1 at *
  simp [irow] at hr
  simp at hr'
  simp (maxSteps := 1000000) [exB, spec_l06Put.m, spec_l06Put.b, List.range_succ, bs_get, setAt, hr, hr', e6, e9, e10, List.take_of_length_le, irow]
structure GX where
  w : Nat
  v8 : Nat
  v1 : Nat
  v2 : Nat
  r8 : List (List T)
  r1 : List (List T)
  n : Nat
def gO0 (s : List Int) (x : GX) : List (Nat × Ob) := match x.w with
  | 0 => [(8, ⟨x.v8, 1, true, false, irow s⟩)]
  | _ => [(8, ⟨x.v8, 1, true, false, x.r8⟩), (12700, ⟨x.v1, 1, true, false, irow s⟩)]
def gR0 (s : List Int) (x : GX) : T := match x.w with
  | 0 => .row 8 x.v8 0 s.length
  | _ => .row 12700 x.v1 0 s.length
def gO (s : List Int) (x : GX) : List (Nat × Ob) := match x.w with
  | 0 => [(8, ⟨x.v8, 1, true, false, irow s⟩)]
  | 1 => [(8, ⟨x.v8, 1, true, false, x.r8⟩), (12700, ⟨x.v1, 1, true, false, irow s⟩)]
  | 2 => [(8, ⟨x.v8, 1, true, false, x.r8⟩), (14600, ⟨x.v2, 1, true, false, irow s⟩)]
  | _ => [(8, ⟨x.v8, 1, true, false, x.r8⟩), (12700, ⟨x.v1, 1, true, false, x.r1⟩), (14600, ⟨x.v2, 1, true, false, irow s⟩)]
def gR (s : List Int) (x : GX) : T := match x.w with
  | 0 => .row 8 x.v8 0 s.length
  | 1 => .row 12700 x.v1 0 s.length
  | _ => .row 14600 x.v2 0 s.length
theorem GX.of {p : GX → Prop} (w r8 r1) (h : ∃ v8 v1 v2 n, p ⟨w, v8, v1, v2, r8, r1, n⟩) : ∃ x, p x := by
  obtain ⟨v8, v1, v2, n, h⟩ := h; exact ⟨_, h⟩
def gjS (a b : List Int) (i : Nat) (s : List Int) (x : GX) : St := { t := [(0, .c (ints a)), (1, .c (ints b)), (5, .c (gR0 s x)), (6, .c (I i))], o := gO0 s x, n := x.n }
def gjE (a b : List Int) (s : List Int) (x : GX) : St := { t := [(0, .c (ints a)), (1, .c (ints b)), (5, .c (gR0 s x)), (6, .c (I a.length)), (12, .c (.bool false))], o := gO0 s x, n := x.n }
def gkS (b : List Int) (i : Nat) (s : List Int) (x : GX) : St := { t := [(1, .c (ints b)), (5, .c (gR s x)), (7, .c (I i))], o := gO s x, n := x.n }
def gkE (b : List Int) (s : List Int) (x : GX) : St := { t := [(1, .c (ints b)), (5, .c (gR s x)), (7, .c (I b.length)), (31, .c (.bool false))], o := gO s x, n := x.n }
theorem irow_scalar (l : List Int) : (irow l).all (fun r => r.all T.scalar) = true := by simp [irow, T.scalar]
theorem spec_JoinGone.turn0 (k1 : spec_l06In.k M) (k2 : spec_l06Put.k M) (a b : List Int) (K i : Nat) (hi : i < a.length) (ha : a.length ≤ 1048576) (s : List Int) (hs : s.length ≤ i) (x : GX) :
    ∃ y, exC (run M) K spec_JoinGone.l0 (gjS a b i s x) = some (.normal, gjS a b (i + 1) (gadd s a[i]) y) := by
  have h1 := spec_l06In.says k1 s a[i] (by omega)
  have h2 := spec_l06Put.says k2 s a[i] (by omega)
  have e5 : IntKind.i64.wrap ((i : Int) + 1) = (i : Int) + 1 := wrap_i64 (by omega) (by omega)
  have e9 := irow_length s
  have e10 := irow_length (gput s a[i])
  have hfl := irow_scalar (gput s a[i])
  simp only [ints] at h1 h2
  obtain ⟨w, v8, v1, v2, r8, r1, n⟩ := x
  unfold gadd
  by_cases c : a[i] ∈ s
  · rw [if_pos c]
    rw [decide_eq_true c] at h1
    refine GX.of w r8 r1 ?_
    match w with
    | 0 => simp only [gjS, gO0, gR0]; generalize irow s = rr at *; simp (maxSteps := 1000000) [spec_JoinGone.l0, List.range_succ, bs_get, setAt, hi, h1, e5, e9, List.take_of_length_le]
    | w + 1 => simp only [gjS, gO0, gR0]; generalize irow s = rr at *; simp (maxSteps := 1000000) [spec_JoinGone.l0, List.range_succ, bs_get, setAt, hi, h1, e5, e9, List.take_of_length_le]
  · rw [if_neg c]
    rw [decide_eq_false c] at h1
    match w with
    | 0 =>
      refine GX.of 1 (irow s) r1 ?_
      simp only [gjS, gO0, gR0]; generalize irow (gput s a[i]) = r2 at *; generalize irow s = rr at *; simp (maxSteps := 1000000) [spec_JoinGone.l0, List.range_succ, bs_get, setAt, hi, h1, h2, e5, e9, e10, hfl, List.take_of_length_le]
    | w + 1 =>
      refine GX.of 1 r8 r1 ?_
      simp only [gjS, gO0, gR0]; generalize irow (gput s a[i]) = r2 at *; generalize irow s = rr at *; simp (maxSteps := 1000000) [spec_JoinGone.l0, List.range_succ, bs_get, setAt, hi, h1, h2, e5, e9, e10, hfl, List.take_of_length_le]
theorem spec_JoinGone.turn1 (k1 : spec_l06In.k M) (k2 : spec_l06Put.k M) (b : List Int) (K i : Nat) (hi : i < b.length) (hb : b.length ≤ 1048576) (s : List Int) (hs : s.length ≤ 1048576 + i) (x : GX) :
    ∃ y, exC (run M) K spec_JoinGone.l1 (gkS b i s x) = some (.normal, gkS b (i + 1) (gadd s b[i]) y) := by
  have h1 := spec_l06In.says k1 s b[i] (by omega)
  have h2 := spec_l06Put.says k2 s b[i] (by omega)
  have e5 : IntKind.i64.wrap ((i : Int) + 1) = (i : Int) + 1 := wrap_i64 (by omega) (by omega)
  have e9 := irow_length s
  have e10 := irow_length (gput s b[i])
  have hfl := irow_scalar (gput s b[i])
  simp only [ints] at h1 h2
  obtain ⟨w, v8, v1, v2, r8, r1, n⟩ := x
  unfold gadd
  by_cases c : b[i] ∈ s
  · rw [if_pos c]
    rw [decide_eq_true c] at h1
    refine GX.of w r8 r1 ?_
    match w with
    | 0 => simp only [gkS, gO, gR]; generalize irow s = rr at *; simp (maxSteps := 1000000) [spec_JoinGone.l1, List.range_succ, bs_get, setAt, hi, h1, e5, e9, List.take_of_length_le]
    | 1 => simp only [gkS, gO, gR]; generalize irow s = rr at *; simp (maxSteps := 1000000) [spec_JoinGone.l1, List.range_succ, bs_get, setAt, hi, h1, e5, e9, List.take_of_length_le]
    | 2 => simp only [gkS, gO, gR]; generalize irow s = rr at *; simp (maxSteps := 1000000) [spec_JoinGone.l1, List.range_succ, bs_get, setAt, hi, h1, e5, e9, List.take_of_length_le]
    | w + 3 => simp only [gkS, gO, gR]; generalize irow s = rr at *; simp (maxSteps := 1000000) [spec_JoinGone.l1, List.range_succ, bs_get, setAt, hi, h1, e5, e9, List.take_of_length_le]
  · rw [if_neg c]
    rw [decide_eq_false c] at h1
    match w with
    | 0 =>
      refine GX.of 2 (irow s) r1 ?_
      simp only [gkS, gO, gR]; generalize irow (gput s b[i]) = r2 at *; generalize irow s = rr at *; simp (maxSteps := 1000000) [spec_JoinGone.l1, List.range_succ, bs_get, setAt, hi, h1, h2, e5, e9, e10, hfl, List.take_of_length_le]
    | 1 =>
      refine GX.of 3 r8 (irow s) ?_
      simp only [gkS, gO, gR]; generalize irow (gput s b[i]) = r2 at *; generalize irow s = rr at *; simp (maxSteps := 1000000) [spec_JoinGone.l1, List.range_succ, bs_get, setAt, hi, h1, h2, e5, e9, e10, hfl, List.take_of_length_le]
    | 2 =>
      refine GX.of 2 r8 r1 ?_
      simp only [gkS, gO, gR]; generalize irow (gput s b[i]) = r2 at *; generalize irow s = rr at *; simp (maxSteps := 1000000) [spec_JoinGone.l1, List.range_succ, bs_get, setAt, hi, h1, h2, e5, e9, e10, hfl, List.take_of_length_le]
    | w + 3 =>
      refine GX.of 3 r8 r1 ?_
      simp only [gkS, gO, gR]; generalize irow (gput s b[i]) = r2 at *; generalize irow s = rr at *; simp (maxSteps := 1000000) [spec_JoinGone.l1, List.range_succ, bs_get, setAt, hi, h1, h2, e5, e9, e10, hfl, List.take_of_length_le]
theorem spec_JoinGone.says (h : spec_JoinGone.k M) (a b : List Int) (ha : a.length ≤ 1048576) (hb : b.length ≤ 1048576) : run M 43 [.c (ints a), .c (ints b)] [] = some (.c (.sl true 1 (irow (joinGone a b))), []) := by
  obtain ⟨h0, k1, k2⟩ := h
  refine run_code (b := spec_JoinGone.m) h0 ⟨a.length + b.length + 1, ?_⟩
  obtain ⟨g, hr⟩ := fold_loop (f := exC (run M) (a.length + b.length + 1) spec_JoinGone.l0) a gadd (fun i s => s.length ≤ i) (gjS a b) 0 (gjE a b)
    (fun i h s hs => by have := gadd_len s a[i]; omega)
    (fun i hi s x hs => spec_JoinGone.turn0 k1 k2 a b _ i hi ha s hs x)
    (fun s x hs => by
      obtain ⟨w, v8, v1, v2, r8, r1, n⟩ := x
      refine GX.of w r8 r1 ?_
      match w with
      | 0 => simp only [gjS, gjE, gO0, gR0]; simp (maxSteps := 1000000) [spec_JoinGone.l0, List.range_succ, bs_get, setAt]
      | w + 1 => simp only [gjS, gjE, gO0, gR0]; simp (maxSteps := 1000000) [spec_JoinGone.l0, List.range_succ, bs_get, setAt]) [] (by simp)
  have hla := gfold_len a []
  obtain ⟨g', hr'⟩ := fold_loop (f := exC (run M) (a.length + b.length + 1) spec_JoinGone.l1) b gadd (fun i s => s.length ≤ 1048576 + i) (gkS b) 2 (gkE b)
    (fun i h s hs => by have := gadd_len s b[i]; omega)
    (fun i hi s x hs => spec_JoinGone.turn1 k1 k2 b _ i hi hb s hs x)
    (fun s x hs => by
      obtain ⟨w, v8, v1, v2, r8, r1, n⟩ := x
      refine GX.of w r8 r1 ?_
      match w with
      | 0 => simp only [gkS, gkE, gO, gR]; simp (maxSteps := 1000000) [spec_JoinGone.l1, List.range_succ, bs_get, setAt]
      | 1 => simp only [gkS, gkE, gO, gR]; simp (maxSteps := 1000000) [spec_JoinGone.l1, List.range_succ, bs_get, setAt]
      | 2 => simp only [gkS, gkE, gO, gR]; simp (maxSteps := 1000000) [spec_JoinGone.l1, List.range_succ, bs_get, setAt]
      | w + 3 => simp only [gkS, gkE, gO, gR]; simp (maxSteps := 1000000) [spec_JoinGone.l1, List.range_succ, bs_get, setAt]) (a.foldl gadd []) (by simp at hla ⊢; omega)
  have hr2 := fun x => loopN_le (hr x) (show a.length + 1 ≤ a.length + b.length + 1 by omega)
  have hr3 := fun x => loopN_le (hr' x) (show b.length + 1 ≤ a.length + b.length + 1 by omega)
  have hj : b.foldl gadd (a.foldl gadd []) = joinGone a b := by rw [joinGone, List.foldl_append]
  rw [hj] at hr3
  have e9 := irow_length (joinGone a b)
  generalize joinGone a b = j at *
  generalize a.foldl gadd [] = s at *
  have hr4 : ∀ y : GX, ∃ z : GX, loopN (exC (run M) (a.length + b.length + 1) spec_JoinGone.l1) (a.length + b.length + 1) (gkS b 0 s y) = some (.exit 2, gkE b j z) := fun y => ⟨_, hr3 y⟩
  have hq := hr2 ⟨0, 2000016, 0, 0, [], [], 2000064⟩
  generalize g ⟨0, 2000016, 0, 0, [], [], 2000064⟩ = y at hq
  clear hr hr2 hr' hr3
  obtain ⟨w, v8, v1, v2, r8, r1, n⟩ := y
  match w with
  | 0 =>
    obtain ⟨⟨w', u8, u1, u2, q8, q1, m⟩, hz⟩ := hr4 ⟨0, v8, v1, v2, r8, r1, n + 16⟩
    simp [gjS, gjE, gO0, gR0, irow] at hq
    match w' with
    | 0 => simp [gkS, gkE, gO, gR, irow] at hz; simp only [irow] at e9 ⊢; simp (maxSteps := 1000000) [exB, spec_JoinGone.m, spec_JoinGone.b, List.range_succ, bs_get, setAt, hq, hz, e9, List.take_of_length_le]
    | 1 => simp [gkS, gkE, gO, gR, irow] at hz; simp only [irow] at e9 ⊢; simp (maxSteps := 1000000) [exB, spec_JoinGone.m, spec_JoinGone.b, List.range_succ, bs_get, setAt, hq, hz, e9, List.take_of_length_le]
    | 2 => simp [gkS, gkE, gO, gR, irow] at hz; simp only [irow] at e9 ⊢; simp (maxSteps := 1000000) [exB, spec_JoinGone.m, spec_JoinGone.b, List.range_succ, bs_get, setAt, hq, hz, e9, List.take_of_length_le]
    | w' + 3 => simp [gkS, gkE, gO, gR, irow] at hz; simp only [irow] at e9 ⊢; simp (maxSteps := 1000000) [exB, spec_JoinGone.m, spec_JoinGone.b, List.range_succ, bs_get, setAt, hq, hz, e9, List.take_of_length_le]
  | w + 1 =>
    obtain ⟨⟨w', u8, u1, u2, q8, q1, m⟩, hz⟩ := hr4 ⟨1, v8, v1, v2, r8, r1, n + 16⟩
    simp [gjS, gjE, gO0, gR0, irow] at hq
    match w' with
    | 0 => simp [gkS, gkE, gO, gR, irow] at hz; simp only [irow] at e9 ⊢; simp (maxSteps := 1000000) [exB, spec_JoinGone.m, spec_JoinGone.b, List.range_succ, bs_get, setAt, hq, hz, e9, List.take_of_length_le]
    | 1 => simp [gkS, gkE, gO, gR, irow] at hz; simp only [irow] at e9 ⊢; simp (maxSteps := 1000000) [exB, spec_JoinGone.m, spec_JoinGone.b, List.range_succ, bs_get, setAt, hq, hz, e9, List.take_of_length_le]
    | 2 => simp [gkS, gkE, gO, gR, irow] at hz; simp only [irow] at e9 ⊢; simp (maxSteps := 1000000) [exB, spec_JoinGone.m, spec_JoinGone.b, List.range_succ, bs_get, setAt, hq, hz, e9, List.take_of_length_le]
    | w' + 3 => simp [gkS, gkE, gO, gR, irow] at hz; simp only [irow] at e9 ⊢; simp (maxSteps := 1000000) [exB, spec_JoinGone.m, spec_JoinGone.b, List.range_succ, bs_get, setAt, hq, hz, e9, List.take_of_length_le]
theorem run_sort (h : M 135 = some (.ext sortG)) (zs : List Int) (hz : zs.length ≤ 4294967296) : run M 135 [.c (.row 0 0 0 zs.length)] [(0, ⟨0, 1, true, false, irow zs⟩)] = some (.tup [], [(0, ⟨0, 1, true, false, irow (sortI zs)⟩)]) := by
  refine run_ext h ?_
  simp [sortG, lentInts, rowsInts_irow, hz]
theorem run_compact (h : M 136 = some (.ext compactG)) (zs : List Int) (hz : zs.length ≤ 4294967296) :
    run M 136 [.c (.row 0 0 0 zs.length)] [(0, ⟨0, 1, true, false, irow zs⟩)] = some (.c (.row 0 0 0 (Lib.compact zs).length), [(0, ⟨0, 1, true, false, irow (Lib.compact zs ++ List.replicate (zs.length - (Lib.compact zs).length) 0)⟩)]) := by
  refine run_ext h ?_
  simp [compactG, lentInts, rowsInts_irow, hz]
theorem impl_JoinGone.says (h : impl_JoinGone.k M) (a b : List Int) (ha : a.length ≤ 1048576) (hb : b.length ≤ 1048576) : run M 44 [.c (ints a), .c (ints b)] [] = some (.c (.sl true 1 (irow (joinGone a b))), []) := by
  obtain ⟨h0, k1, k2, k3⟩ := h
  have h1 := impl_copyInts.says k1 a ha
  have hab : (a ++ b).length ≤ 4294967296 := by simp; omega
  have h2 := run_sort k2 (a ++ b) hab
  have hsl : (sortI (a ++ b)).length = (a ++ b).length := by simp [sortI]
  have h3 := run_compact k3 (sortI (a ++ b)) (by rw [hsl]; exact hab)
  rw [joinGone_sort] at h3
  have hjl : (joinGone a b).length ≤ (a ++ b).length := by
    have := gfold_len (a ++ b) []; simp only [joinGone]; simpa using this
  refine run_code (b := impl_JoinGone.m) h0 ⟨0, ?_⟩
  rw [hsl] at h3
  have e1 : irow (a ++ b) = irow a ++ irow b := by simp [irow]
  have e2 : irow (joinGone a b ++ List.replicate ((a ++ b).length - (joinGone a b).length) 0) = irow (joinGone a b) ++ irow (List.replicate ((a ++ b).length - (joinGone a b).length) 0) := by simp [irow]
  rw [e1] at h2
  rw [e2] at h3
  simp only [List.length_append] at h2 h3 hab hjl
  have l1 := irow_length a
  have l2 := irow_length b
  have l3 := irow_length (joinGone a b)
  have l4 : (irow (List.replicate (a.length + b.length - (joinGone a b).length) 0)).length = a.length + b.length - (joinGone a b).length := by simp [irow]
  have s1 := irow_scalar (sortI (a ++ b))
  have s2 := irow_scalar (joinGone a b)
  have l5 := irow_length (sortI (a ++ b))
  rw [hsl] at l5
  simp only [List.length_append] at l5
  simp only [ints] at h1 ⊢
  generalize irow (List.replicate (a.length + b.length - (joinGone a b).length) 0) = rz at *
  generalize irow (sortI (a ++ b)) = rs at *
  generalize joinGone a b = j at *
  generalize irow j = rj at *
  have e5 : a.length ≤ 4294967296 := by omega
  have e6 : j.length ≤ rj.length + rz.length := by omega
  generalize irow a = ra at *
  generalize irow b = rb at *
  simp (maxSteps := 1000000) [exB, impl_JoinGone.m, impl_JoinGone.b, List.range_succ, bs_get, setAt, h1, h2, h3, hab, l1, l2, l3, l4, l5, e5, List.take_of_length_le]
end Mx

namespace Mx
open Go
variable {M : Nat → Option Body}
def badMail (b : Box) (i : Nat) : Bool := match b.mails[i]? with
  | some m => !mailOk m || decide (b.next ≤ m.uid) || (decide (0 < i) && match b.mails[i - 1]? with | some p => decide (m.uid ≤ p.uid) | none => false) || !decide (intO (mailO b.mails m.gid) = (i : Int)) || decide (m.gid ∈ b.gone)
  | none => false
theorem badMail_at {b : Box} {i : Nat} (h : i < b.mails.length) : badMail b i = (!mailOk b.mails[i] || decide (b.next ≤ b.mails[i].uid) || (decide (0 < i) && decide (b.mails[i].uid ≤ b.mails[i - 1].uid)) ||
    !decide (intO (mailO b.mails b.mails[i].gid) = (i : Int)) || decide (b.mails[i].gid ∈ b.gone)) := by
  simp [badMail, h, (show i - 1 < b.mails.length by omega)]
def boxOk (b : Box) : Bool := inR 1 b.gid 9999 && nameOk b.name && stampOk b.time b.who && inR 1 b.next 10000 && decide (b.mails.length ≤ 10) && gidsOk b.gone 40 && (firstN (badMail b) b.mails.length).isNone
def sbxS (b : Box) (i : Nat) (x : Nat × Nat) : St := { t := [(1, .c (.ptr 1 x.1 0 0)), (3, .c (I i))], o := [(1, ⟨x.1, 7, true, true, [encBox b]⟩)], n := x.2 }
def sbxSE (b : Box) (x : Nat × Nat) : St := { t := [(1, .c (.ptr 1 x.1 0 0)), (3, .c (I b.mails.length)), (43, .c (.bool false))], o := [(1, ⟨x.1, 7, true, true, [encBox b]⟩)], n := x.2 }
theorem spec_BoxOk.good (hat : spec_MailAt.k M) (hin : spec_l06In.k M) (hmo : spec_MailOk.k M) (b : Box) (hml : b.mails.length ≤ 1048576) (hgl : b.gone.length ≤ 4611686018427387904) (hw : ∀ m ∈ b.mails, m.flags.length ≤ 1048576)
    (i : Nat) (hi : i < b.mails.length) (x : Nat × Nat) (c : badMail b i = false) : ∃ y, exC (run M) (b.mails.length + 1) spec_BoxOk.l0 (sbxS b i x) = some (.normal, sbxS b (i + 1) y) := by
      obtain ⟨v, x⟩ := x
      simp only [Prod.exists]
      have hm := spec_MailOk.says hmo b.mails[i] (hw _ (List.getElem_mem hi))
      have ha := spec_MailAt.says hat b b.mails[i].gid hml
      have hg := spec_l06In.says hin b.gone b.mails[i].gid hgl
      simp only [encMail, encBox] at hm ha hg
      rw [badMail_at hi] at c
      simp at c
      obtain ⟨⟨⟨⟨c1, c2⟩, c3⟩, c4⟩, c5⟩ := c
      have e5 : IntKind.i64.wrap ((i : Int) + 1) = (i : Int) + 1 := wrap_i64 (by omega) (by omega)
      rw [c1] at hm
      rw [c4] at ha
      rw [decide_eq_false c5] at hg
      have c2' : ¬ b.next ≤ b.mails[i].uid := by omega
      by_cases c6 : 0 < i
      · have e6 : IntKind.i64.wrap ((i : Int) - 1) = ((i - 1 : Nat) : Int) := by rw [wrap_i64 (by omega) (by omega)]; omega
        have c3' : ¬ b.mails[i].uid ≤ b.mails[i - 1].uid := by have := c3 c6; omega
        simp (maxSteps := 1000000) [spec_BoxOk.l0, List.range_succ, bs_get, setAt, sbxS, encMail, hi, hm, ha, hg, c2', c6, c3', e5, e6, (show i - 1 < b.mails.length by omega)]
      · simp (maxSteps := 1000000) [spec_BoxOk.l0, List.range_succ, bs_get, setAt, sbxS, encMail, hi, hm, ha, hg, c2', c6, e5]
theorem spec_BoxOk.bad (hat : spec_MailAt.k M) (hin : spec_l06In.k M) (hmo : spec_MailOk.k M) (b : Box) (hml : b.mails.length ≤ 1048576) (hgl : b.gone.length ≤ 4611686018427387904) (hw : ∀ m ∈ b.mails, m.flags.length ≤ 1048576)
    (i : Nat) (hi : i < b.mails.length) (x : Nat × Nat) (c : badMail b i = true) : ∃ k, exC (run M) (b.mails.length + 1) spec_BoxOk.l0 (sbxS b i x) = some (.ret, { t := [(2, .c (.bool false))], o := [], n := k }) := by
      obtain ⟨v, x⟩ := x
      have hm := spec_MailOk.says hmo b.mails[i] (hw _ (List.getElem_mem hi))
      have ha := spec_MailAt.says hat b b.mails[i].gid hml
      have hg := spec_l06In.says hin b.gone b.mails[i].gid hgl
      simp only [encMail, encBox] at hm ha hg
      rw [badMail_at hi] at c
      cases c1 : mailOk b.mails[i]
      · rw [c1] at hm
        simp (maxSteps := 1000000) [spec_BoxOk.l0, List.range_succ, bs_get, setAt, sbxS, encMail, hi, hm]
      rw [c1] at hm
      by_cases c2 : b.next ≤ b.mails[i].uid
      · simp (maxSteps := 1000000) [spec_BoxOk.l0, List.range_succ, bs_get, setAt, sbxS, encMail, hi, hm, c2]
      have c2' : ¬ b.next ≤ b.mails[i].uid := c2
      by_cases c6 : 0 < i
      · have e6 : IntKind.i64.wrap ((i : Int) - 1) = ((i - 1 : Nat) : Int) := by rw [wrap_i64 (by omega) (by omega)]; omega
        by_cases c3 : b.mails[i].uid ≤ b.mails[i - 1].uid
        · simp (maxSteps := 1000000) [spec_BoxOk.l0, List.range_succ, bs_get, setAt, sbxS, encMail, hi, hm, c2, c6, c3, e6, (show i - 1 < b.mails.length by omega)]
        by_cases c5 : b.mails[i].gid ∈ b.gone
        · rw [decide_eq_true c5] at hg
          simp (maxSteps := 1000000) [spec_BoxOk.l0, List.range_succ, bs_get, setAt, sbxS, encMail, hi, hm, c2, c6, c3, e6, (show i - 1 < b.mails.length by omega), hg]
        rw [decide_eq_false c5] at hg
        by_cases c4 : intO (mailO b.mails b.mails[i].gid) = (i : Int)
        · simp [c1, c2, c3, c4, c5] at c
        simp (maxSteps := 1000000) [spec_BoxOk.l0, List.range_succ, bs_get, setAt, sbxS, encMail, hi, hm, c2, c6, c3, e6, (show i - 1 < b.mails.length by omega), ha, hg, c4]
      · have c3 := c6
        by_cases c5 : b.mails[i].gid ∈ b.gone
        · rw [decide_eq_true c5] at hg
          simp (maxSteps := 1000000) [spec_BoxOk.l0, List.range_succ, bs_get, setAt, sbxS, encMail, hi, hm, c2, c6, hg]
        rw [decide_eq_false c5] at hg
        by_cases c4 : intO (mailO b.mails b.mails[i].gid) = (i : Int)
        · simp [c1, c2, c3, c4, c5] at c
        simp (maxSteps := 1000000) [spec_BoxOk.l0, List.range_succ, bs_get, setAt, sbxS, encMail, hi, hm, c2, c6, ha, hg, c4]
theorem spec_BoxOk.says (h : spec_BoxOk.k M) (b : Box) (hml : b.mails.length ≤ 1048576) (hgl : b.gone.length ≤ 4611686018427387904) (hnl : b.name.length ≤ 4611686018427387904) (hw : ∀ m ∈ b.mails, m.flags.length ≤ 1048576) :
    run M 88 [.a (encBox b)] [] = some (.c (.bool (boxOk b)), []) := by
  obtain ⟨h0, hno, hat, hwi, hin, hso, hgo, hmo⟩ := h
  have h1 := spec_l01In.inR hwi b.gid 1 9999
  have h2 := spec_NameOk.says hno b.name hnl
  have h3 := spec_StampOk.says hso b.time b.who
  have h4 := spec_l01In.inR hwi b.next 1 10000
  have h5 := spec_l06Sorted.says hgo b.gone 40 hgl
  refine run_code (b := spec_BoxOk.m) h0 ⟨b.mails.length + 1, ?_⟩
  obtain ⟨g, hr⟩ := early_loop (f := exC (run M) (b.mails.length + 1) spec_BoxOk.l0) b.mails.length (badMail b) (sbxS b) 2 (.bool false) 0 (sbxSE b)
    (fun i hi x c => spec_BoxOk.good hat hin hmo b hml hgl hw i hi x c)
    (fun i hi x c => spec_BoxOk.bad hat hin hmo b hml hgl hw i hi x c)
    (fun x => by
      obtain ⟨v, x⟩ := x
      simp only [Prod.exists]
      simp (maxSteps := 1000000) [spec_BoxOk.l0, List.range_succ, bs_get, setAt, sbxS, sbxSE])
  cases c1 : inR 1 b.gid 9999
  · simp (maxSteps := 1000000) [exB, spec_BoxOk.m, spec_BoxOk.b, List.range_succ, bs_get, setAt, h1, c1, boxOk]
  cases c2 : nameOk b.name
  · simp (maxSteps := 1000000) [exB, spec_BoxOk.m, spec_BoxOk.b, List.range_succ, bs_get, setAt, h1, h2, c1, c2, boxOk]
  cases c3 : stampOk b.time b.who
  · simp (maxSteps := 1000000) [exB, spec_BoxOk.m, spec_BoxOk.b, List.range_succ, bs_get, setAt, h1, h2, h3, c1, c2, c3, boxOk]
  cases c4 : inR 1 b.next 10000
  · simp (maxSteps := 1000000) [exB, spec_BoxOk.m, spec_BoxOk.b, List.range_succ, bs_get, setAt, h1, h2, h3, h4, c1, c2, c3, c4, boxOk]
  by_cases c5 : 10 < b.mails.length
  · have c5' : ¬ b.mails.length ≤ 10 := by omega
    have ci : (10 : Int) < b.mails.length := by omega
    simp (maxSteps := 1000000) [exB, spec_BoxOk.m, spec_BoxOk.b, List.range_succ, bs_get, setAt, h1, h2, h3, h4, c1, c2, c3, c4, c5, c5', ci, boxOk]
  have c5' : b.mails.length ≤ 10 := by omega
  have ci : ¬ (10 : Int) < b.mails.length := by omega
  cases c6 : gidsOk b.gone 40
  · simp (maxSteps := 1000000) [exB, spec_BoxOk.m, spec_BoxOk.b, List.range_succ, bs_get, setAt, h1, h2, h3, h4, h5, c1, c2, c3, c4, c5, ci, c6, boxOk]
  cases q : firstN (badMail b) b.mails.length with
  | none =>
    simp [sbxS, sbxSE, q, fin1] at hr
    simp (maxSteps := 1000000) [exB, spec_BoxOk.m, spec_BoxOk.b, List.range_succ, bs_get, setAt, h1, h2, h3, h4, h5, c1, c2, c3, c4, c5, c5', ci, c6, hr, boxOk, q]
  | some k =>
    simp [sbxS, q, fin1] at hr
    simp (maxSteps := 1000000) [exB, spec_BoxOk.m, spec_BoxOk.b, List.range_succ, bs_get, setAt, h1, h2, h3, h4, h5, c1, c2, c3, c4, c5, c5', ci, c6, hr, boxOk, q]
end Mx

namespace Mx
open Go
variable {M : Nat → Option Body}
abbrev boxes (l : List Box) : T := .sl false 7 (l.map encBox)
end Mx

namespace Mx
open Go
variable {M : Nat → Option Body}
def named (l : List Box) (s : List UInt8) : Option Nat := l.findIdx? fun b => decide (b.name = s)
end Mx

namespace Mx
open Go
variable {M : Nat → Option Body}
/-- small enough to be walked -/
structure BoxIn (b : Box) : Prop where
  m : b.mails.length ≤ 1048576
  g : b.gone.length ≤ 1048576
  n : b.name.length ≤ 1048576
  f : ∀ m ∈ b.mails, m.flags.length ≤ 1048576
theorem BoxIn.ok {b : Box} (h : BoxIn b) : b.mails.length ≤ 1048576 ∧ b.gone.length ≤ 4611686018427387904 ∧ b.name.length ≤ 4611686018427387904 ∧ ∀ m ∈ b.mails, m.flags.length ≤ 1048576 := ⟨h.m, by have := h.g; omega, by have := h.n; omega, h.f⟩
end Mx

namespace Mx
open Go
variable {M : Nat → Option Body}
theorem inR_iff {a n b : Int} : inR a n b = true ↔ a ≤ n ∧ n ≤ b := by simp [inR]
def isVar (n : Int) : Prop := 0 ≤ n ∧ n ≤ 1000000000
theorem flagsOk_regs {l : List Reg} (h : flagsOk l = true) : l.length = 3 ∧ ∀ r ∈ l, regOk r = true := by
  simp only [flagsOk, Bool.and_eq_true, decide_eq_true_eq, Option.isNone_iff_eq_none, firstN_isNone] at h
  refine ⟨h.2, fun r hr => ?_⟩
  obtain ⟨i, hi, e⟩ := List.getElem_of_mem hr
  have := h.1 i hi
  rw [badFlag_at hi, e] at this
  simp at this
  exact this.1
theorem mailOk_vars {m : Mail} (h : mailOk m = true) : isVar m.gid ∧ isVar m.uid ∧ m.flags.length = 3 ∧ (∀ r ∈ m.flags, regOk r = true) ∧ m.text.length ≤ 60 := by
  simp only [mailOk, Bool.and_eq_true, inR_iff, decide_eq_true_eq] at h
  have hf := flagsOk_regs h.1.2
  exact ⟨⟨by omega, by omega⟩, ⟨by omega, by omega⟩, hf.1, hf.2, h.2⟩
theorem stampOk_vars {t w : Int} (h : stampOk t w = true) : isVar t ∧ isVar w := by
  simp only [stampOk, Bool.and_eq_true, inR_iff] at h
  unfold isVar; omega
theorem gidsOk_vars {l : List Int} {most : Int} (h : gidsOk l most = true) : (l.length : Int) ≤ most ∧ ∀ n ∈ l, 1 ≤ n ∧ n ≤ 9999 := by
  simp only [gidsOk, Bool.and_eq_true, decide_eq_true_eq, Option.isNone_iff_eq_none, firstN_isNone] at h
  refine ⟨h.2, fun r hr => ?_⟩
  obtain ⟨i, hi, e⟩ := List.getElem_of_mem hr
  have := h.1 i hi
  rw [badGid_at hi, e] at this
  simp at this
  exact inR_iff.1 this.1
theorem nameOk_len {l : List UInt8} (h : nameOk l = true) : 1 ≤ l.length ∧ l.length ≤ 12 := by
  simp only [nameOk, Bool.and_eq_true, inR_iff] at h
  omega
theorem boxOk_vars {b : Box} (h : boxOk b = true) : isVar b.gid ∧ b.name.length ≤ 12 ∧ isVar b.time ∧ isVar b.who ∧ isVar b.next ∧ b.mails.length ≤ 10 ∧ b.gone.length ≤ 40 ∧ (∀ n ∈ b.gone, isVar n) ∧ ∀ m ∈ b.mails, mailOk m = true := by
  simp only [boxOk, Bool.and_eq_true, decide_eq_true_eq, Option.isNone_iff_eq_none, firstN_isNone, inR_iff] at h
  obtain ⟨⟨⟨⟨⟨⟨h1, h2⟩, h3⟩, h4⟩, h5⟩, h6⟩, h7⟩ := h
  have hn := nameOk_len h2
  have hs := stampOk_vars h3
  have hg := gidsOk_vars h6
  refine ⟨⟨by omega, by omega⟩, hn.2, hs.1, hs.2, ⟨by omega, by omega⟩, h5, by omega, fun n hn => ⟨by have := hg.2 n hn; omega, by have := hg.2 n hn; omega⟩, fun m hm => ?_⟩
  obtain ⟨i, hi, e⟩ := List.getElem_of_mem hm
  have := h7 i hi
  rw [badMail_at hi, e] at this
  simp at this
  exact this.1.1.1.1
end Mx

namespace Mx
open Go
variable {M : Nat → Option Body}
theorem wrap_one : IntKind.i64.wrap 1 = 1 := wrap_i64 (by omega) (by omega)
abbrev bzero : List T := [I 0, .str ⟨#[]⟩, I 0, I 0, I 0, .nils 4, .nils 1]
abbrev mzero : List T := [I 0, I 0, .nils 3, .str ⟨#[]⟩]
structure Four where
  a : Nat
  b : Nat
  c : Nat
  d : Nat
theorem Four.ex {p : Four → Prop} : (∃ x, p x) ↔ ∃ a b c d, p ⟨a, b, c, d⟩ := ⟨fun ⟨⟨a, b, c, d⟩, h⟩ => ⟨a, b, c, d, h⟩, fun ⟨a, b, c, d, h⟩ => ⟨⟨a, b, c, d⟩, h⟩⟩
end Mx

namespace Mx
open Go
variable {M : Nat → Option Body}
theorem impl_copyRegs.says (h : impl_copyRegs.k M) (l : List Reg) (hl : l.length ≤ 1048576) : run M 239 [.c (regs l)] [] = some (.c (.sl true 3 (l.map encReg)), []) := by
  refine run_code (b := impl_copyRegs.m) h ⟨0, ?_⟩
  have e : (l.map encReg).length = l.length := by simp
  have h1 : l.length ≤ 4294967296 := by omega
  simp only [regs]
  generalize l.map encReg = r at *
  simp (maxSteps := 1000000) [exB, impl_copyRegs.m, impl_copyRegs.b, List.range_succ, bs_get, setAt, e, h1, List.take_of_length_le]
theorem spec_l04Copy.says (h : spec_l04Copy.k M) (l : List Reg) (hl : l.length ≤ 1048576) : run M 241 [.c (regs l)] [] = some (.c (.sl true 3 (l.map encReg)), []) := by
  refine run_code (b := spec_l04Copy.m) h ⟨0, ?_⟩
  have e : (l.map encReg).length = l.length := by simp
  have h1 : l.length ≤ 4294967296 := by omega
  simp only [regs]
  generalize l.map encReg = r at *
  simp (maxSteps := 1000000) [exB, spec_l04Copy.m, spec_l04Copy.b, List.range_succ, bs_get, setAt, e, h1, List.take_of_length_le]
theorem impl_copyMail.says (h : impl_copyMail.k M) (m : Mail) (hl : m.flags.length ≤ 1048576) : run M 233 [.a (encMail m)] [] = some (.a (encMailO m), []) := by
  have h1 := impl_copyRegs.says h.2 m.flags hl
  refine run_code (b := impl_copyMail.m) h.1 ⟨0, ?_⟩
  have e : (m.flags.map encReg).length = m.flags.length := by simp
  simp only [encMail, encMailO, regs] at *
  generalize m.flags.map encReg = r at *
  simp (maxSteps := 1000000) [exB, impl_copyMail.m, impl_copyMail.b, List.range_succ, bs_get, setAt, h1, e, List.take_of_length_le]
theorem spec_l05Copy.says (h : spec_l05Copy.k M) (m : Mail) (hl : m.flags.length ≤ 1048576) : run M 238 [.a (encMail m)] [] = some (.a (encMailO m), []) := by
  have h1 := spec_l04Copy.says h.2 m.flags hl
  refine run_code (b := spec_l05Copy.m) h.1 ⟨0, ?_⟩
  have e : (m.flags.map encReg).length = m.flags.length := by simp
  simp only [encMail, encMailO, regs] at *
  generalize m.flags.map encReg = r at *
  simp (maxSteps := 1000000) [exB, spec_l05Copy.m, spec_l05Copy.b, List.range_succ, bs_get, setAt, h1, e, List.take_of_length_le]
/-- a loop that counts -/
theorem count_loop {β γ : Type} (n : Nat) {f : St → Option (Out × St)} (S : Nat → β → St) (e : Nat) (E : γ → St)
    (h1 : ∀ i, i < n → ∀ x, ∃ y, f (S i x) = some (.normal, S (i + 1) y)) (h3 : ∀ x, ∃ y, f (S n x) = some (.exit e, E y)) :
    ∃ g : β → γ, ∀ x, loopN f (n + 1) (S 0 x) = some (.exit e, E (g x)) := by
  refine loop_all (f := f) S (fun i => i ≤ n) (fun i => n - i) (fun _ => ()) (fun _ m => (.exit e, E m)) ?_ (n + 1) 0 (Nat.zero_le _) (by omega)
  intro i x hi
  by_cases hlt : i < n
  · left
    obtain ⟨y, hy⟩ := h1 i hlt x
    exact ⟨i + 1, y, hy, hlt, by omega, rfl⟩
  · have : i = n := by omega
    subst this
    right
    obtain ⟨y, hy⟩ := h3 x
    exact ⟨y, by simp [hy], by simp⟩
def icO (b : Box) (i : Nat) (x : Four × Nat) : List (Nat × Ob) := [(1, ⟨x.1.a, 7, true, true, [encBox b]⟩), (2, ⟨x.1.b, 7, true, true, [bzero]⟩), (3, ⟨x.2, 7, true, true, [[I b.gid, S b.name, I b.time, I b.who, I b.next, .row 7 x.1.c 0 i, ints b.gone]]⟩), (7, ⟨x.1.c, 4, true, false, (b.mails.take i).map encMail⟩)]
def icS (b : Box) (i : Nat) (x : Four × Nat) : St := { t := [(1, .c (.ptr 1 x.1.a 0 0)), (2, .c (.ptr 2 x.1.b 0 0)), (3, .c (.ptr 3 x.2 0 0)), (10, .c (mails b.mails)), (11, .c (I b.mails.length)), (12, .c (I i))], o := icO b i x, n := x.1.d }
def icE (b : Box) (x : Four × Nat) : St := { t := [(1, .c (.ptr 1 x.1.a 0 0)), (2, .c (.ptr 2 x.1.b 0 0)), (3, .c (.ptr 3 x.2 0 0)), (10, .c (mails b.mails)), (11, .c (I b.mails.length)), (12, .c (I b.mails.length)), (13, .c (.bool false))], o := icO b b.mails.length x, n := x.1.d }
theorem take_snoc {α : Type} (l : List α) (i : Nat) (h : i < l.length) : l.take (i + 1) = l.take i ++ [l[i]] := List.take_succ_eq_append_getElem h
theorem impl_copyBox.says (h : impl_copyBox.k M) (b : Box) (hb : BoxIn b) : run M 155 [.a (encBox b)] [] = some (.a (encBoxO b), []) := by
  obtain ⟨h0, k1, k2⟩ := h
  have hm := hb.m
  have h1 := impl_copyInts.says k1 b.gone hb.g
  refine run_code (b := impl_copyBox.m) h0 ⟨b.mails.length + 1, ?_⟩
  obtain ⟨g, hr⟩ := count_loop (f := exC (run M) (b.mails.length + 1) impl_copyBox.l0) b.mails.length (icS b) 0 (icE b)
    (fun i hi x => by
      obtain ⟨⟨v1, v2, v3, n⟩, v4⟩ := x
      have h2 := impl_copyMail.says k2 b.mails[i] (hb.f _ (List.getElem_mem hi))
      have e5 : IntKind.i64.wrap ((i : Int) + 1) = (i : Int) + 1 := wrap_i64 (by omega) (by omega)
      have e6 : i + 1 ≤ 4294967296 := by omega
      have e7 : ((b.mails.take i).map encMail).length = i := by simp; omega
      have e8 : ((b.mails.take (i + 1)).map encMail) = (b.mails.take i).map encMail ++ [encMail b.mails[i]] := by rw [take_snoc _ _ hi, List.map_append]; rfl
      simp only [icS, icO, e8, Prod.exists, Four.ex]
      generalize (b.mails.take i).map encMail = rr at *
      simp only [encMail, encMailO] at h2
      simp (maxSteps := 1000000) [impl_copyBox.l0, List.range_succ, bs_get, setAt, hi, h2, e5, e6, e7, encMail, List.take_of_length_le]
      exact ⟨_, _, _, _, _, ⟨rfl, rfl, rfl⟩, ⟨rfl, rfl, rfl, rfl⟩, rfl⟩)
    (fun x => by
      obtain ⟨⟨v1, v2, v3, n⟩, v4⟩ := x
      simp only [Prod.exists, Four.ex]
      simp (maxSteps := 1000000) [impl_copyBox.l0, List.range_succ, bs_get, setAt, icS, icE, icO]
      exact ⟨_, _, _, _, _, ⟨rfl, rfl, rfl⟩, ⟨rfl, rfl, rfl, rfl⟩, rfl⟩)
  have e7 : (b.mails.map encMail).length = b.mails.length := by simp
  have e8 := irow_length b.gone
  have e9 : b.mails.take b.mails.length = b.mails := by simp
  simp only [ints] at h1
  simp only [icS, icE, icO, e9, List.take_zero, List.map_nil, ints] at hr
  replace hr := fun a b c d n => hr ⟨⟨a, b, c, d⟩, n⟩
  simp only [encBox, encBoxO, mails, ints] at hr ⊢
  generalize b.mails.map encMail = rm at *
  generalize irow b.gone = rg at *
  simp at hr
  simp (maxSteps := 1000000) [exB, impl_copyBox.m, impl_copyBox.b, List.range_succ, bs_get, setAt, hr, h1, e7, e8, List.take_of_length_le]
def scO (b : Box) (i : Nat) (x : Four × Nat) : List (Nat × Ob) := [(1, ⟨x.1.a, 7, true, true, [encBox b]⟩), (2, ⟨x.1.b, 7, true, true, [bzero]⟩), (3, ⟨x.2, 7, true, true, [[I b.gid, S b.name, I b.time, I b.who, I b.next, .row 6 x.1.c 0 i, ints b.gone]]⟩), (6, ⟨x.1.c, 4, true, false, (b.mails.take i).map encMail⟩)]
def scS (b : Box) (i : Nat) (x : Four × Nat) : St := { t := [(1, .c (.ptr 1 x.1.a 0 0)), (2, .c (.ptr 2 x.1.b 0 0)), (3, .c (.ptr 3 x.2 0 0)), (4, .c (I i))], o := scO b i x, n := x.1.d }
def scE (b : Box) (x : Four × Nat) : St := { t := [(1, .c (.ptr 1 x.1.a 0 0)), (2, .c (.ptr 2 x.1.b 0 0)), (3, .c (.ptr 3 x.2 0 0)), (4, .c (I b.mails.length)), (12, .c (.bool false))], o := scO b b.mails.length x, n := x.1.d }
theorem spec_l06Copy.says (h : spec_l06Copy.k M) (b : Box) (hb : BoxIn b) : run M 180 [.a (encBox b)] [] = some (.a (encBoxO b), []) := by
  obtain ⟨h0, k2⟩ := h
  have hm := hb.m
  have hg := hb.g
  refine run_code (b := spec_l06Copy.m) h0 ⟨b.mails.length + 1, ?_⟩
  obtain ⟨g, hr⟩ := count_loop (f := exC (run M) (b.mails.length + 1) spec_l06Copy.l0) b.mails.length (scS b) 0 (scE b)
    (fun i hi x => by
      obtain ⟨⟨v1, v2, v3, n⟩, v4⟩ := x
      have h2 := spec_l05Copy.says k2 b.mails[i] (hb.f _ (List.getElem_mem hi))
      have e5 : IntKind.i64.wrap ((i : Int) + 1) = (i : Int) + 1 := wrap_i64 (by omega) (by omega)
      have e6 : i + 1 ≤ 4294967296 := by omega
      have e7 : ((b.mails.take i).map encMail).length = i := by simp; omega
      have e8 : ((b.mails.take (i + 1)).map encMail) = (b.mails.take i).map encMail ++ [encMail b.mails[i]] := by rw [take_snoc _ _ hi, List.map_append]; rfl
      simp only [scS, scO, e8, Prod.exists, Four.ex]
      generalize (b.mails.take i).map encMail = rr at *
      simp only [encMail, encMailO] at h2
      simp (maxSteps := 1000000) [spec_l06Copy.l0, List.range_succ, bs_get, setAt, hi, h2, e5, e6, e7, encMail, List.take_of_length_le]
      exact ⟨_, _, _, _, _, ⟨rfl, rfl, rfl⟩, ⟨rfl, rfl, rfl, rfl⟩, rfl⟩)
    (fun x => by
      obtain ⟨⟨v1, v2, v3, n⟩, v4⟩ := x
      simp only [Prod.exists, Four.ex]
      simp (maxSteps := 1000000) [spec_l06Copy.l0, List.range_succ, bs_get, setAt, scS, scE, scO]
      exact ⟨_, _, _, _, _, ⟨rfl, rfl, rfl⟩, ⟨rfl, rfl, rfl, rfl⟩, rfl⟩)
  have e7 : (b.mails.map encMail).length = b.mails.length := by simp
  have e8 := irow_length b.gone
  have e9 : b.mails.take b.mails.length = b.mails := by simp
  have e6 : b.gone.length ≤ 4294967296 := by omega
  simp only [scS, scE, scO, e9, List.take_zero, List.map_nil, ints] at hr
  replace hr := fun a b c d n => hr ⟨⟨a, b, c, d⟩, n⟩
  simp only [encBox, encBoxO, mails, ints] at hr ⊢
  generalize b.mails.map encMail = rm at *
  generalize irow b.gone = rg at *
  simp at hr
  simp (maxSteps := 1000000) [exB, spec_l06Copy.m, spec_l06Copy.b, List.range_succ, bs_get, setAt, hr, e6, e7, e8, List.take_of_length_le]
def bitOf (n : Int) (i : Nat) : Int := n.fdiv ((2 ^ i : Nat) : Int) % 2
def flagsNew (n t w : Int) : List Reg := [⟨bitOf n 0, t, w⟩, ⟨bitOf n 1, t, w⟩, ⟨bitOf n 2, t, w⟩]
theorem tmod_two (x : Int) : (x.tmod 2 = 0) ↔ x % 2 = 0 :=
  ⟨fun h => Int.emod_eq_zero_of_dvd (Int.dvd_of_tmod_eq_zero h), fun h => Int.tmod_eq_zero_of_dvd (Int.dvd_of_emod_eq_zero h)⟩
theorem spec_FlagsNew.says (h : spec_FlagsNew.k M) (n t w : Int) : run M 181 [.c (I n), .a [I t, I w]] [] = some (.c (.sl true 3 ((flagsNew n t w).map encReg)), []) := by
  refine run_code (b := spec_FlagsNew.m) h ⟨4, ?_⟩
  have w2 : IntKind.i64.wrap 2 = 2 := wrap_i64 (by omega) (by omega)
  have w3 : IntKind.i64.wrap 3 = 3 := wrap_i64 (by omega) (by omega)
  have u0 : IntKind.u64.wrap 0 = 0 := by decide
  have u1 : IntKind.u64.wrap 1 = 1 := by decide
  have u2 : IntKind.u64.wrap 2 = 2 := by decide
  have key : ∀ i : Nat, bitOf n i = if (n.fdiv ((2 ^ i : Nat) : Int)).tmod 2 = 0 then 0 else 1 := by
    intro i
    unfold bitOf
    by_cases c : (n.fdiv ((2 ^ i : Nat) : Int)).tmod 2 = 0
    · rw [if_pos c]; exact (tmod_two _).1 c
    · rw [if_neg c]; rw [tmod_two] at c; omega
  have k0 := key 0
  have k1 := key 1
  have k2 := key 2
  by_cases c0 : (n.fdiv ((2 ^ 0 : Nat) : Int)).tmod 2 = 0 <;> by_cases c1 : (n.fdiv ((2 ^ 1 : Nat) : Int)).tmod 2 = 0 <;> by_cases c2 : (n.fdiv ((2 ^ 2 : Nat) : Int)).tmod 2 = 0 <;>
    simp only [c0, c1, c2, if_true, if_false] at k0 k1 k2 <;> simp at c0 c1 c2 <;>
    simp (maxSteps := 1000000) [exB, spec_FlagsNew.m, spec_FlagsNew.b, List.range_succ, bs_get, setAt, loopN, spec_FlagsNew.l0, wrap_one, w2, w3, u0, u1, u2, flagsNew, encReg, k0, k1, k2, c0, c1, c2, IntKind.bits]
end Mx

namespace Mx
open Go
variable {M : Nat → Option Body}
def byteAt (R : List (List T)) (i : Nat) : Int := match R[i]? with
  | some [.int _ n] => IntKind.i64.wrap n
  | _ => 0
def hAt (R : List (List T)) : Nat → Int
  | 0 => 77201 + R.length
  | i + 1 => andI .i64 (IntKind.i64.wrap (IntKind.i64.wrap (IntKind.i64.wrap (hAt R i * 131) + byteAt R i) + 7)) 1073741823
def lnN (R : List (List T)) : Nat := min R.length 4000
def lnS (R : List (List T)) (i : Nat) (x : Nat) : St := { t := [(0, .c (.sl false 1 R)), (3, .c (I (hAt R i))), (4, .c (I i))], o := [], n := x }
def lnE (R : List (List T)) (x : Nat) : St := { t := [(0, .c (.sl false 1 R)), (3, .c (I (hAt R (lnN R)))), (4, .c (I (lnN R))), (15, .c (.bool false))], o := [], n := x }
theorem spec_l01New.says (h : spec_l01New.k M) {R : List (List T)} (hR : Bytes R) :
    ∃ q : Int, run M 124 [.c (.sl false 1 R)] [] = some (.c (.vp [.sl false 1 R, I 0, I q] 0), []) := by
  refine ⟨hAt R (lnN R), run_code (b := spec_l01New.m) h ⟨lnN R + 1, ?_⟩⟩
  have hl := hR.1
  obtain ⟨g, hr⟩ := count_loop (f := exC (run M) (lnN R + 1) spec_l01New.l0) (lnN R) (lnS R) 0 (lnE R)
    (fun i hi x => by
      have h1 : i < R.length := by unfold lnN at hi; omega
      have h2 : i < 4000 := by unfold lnN at hi; omega
      have h3 : (i : Int) < 4000 := by omega
      obtain ⟨n, hn⟩ := hR.2 i R[i] (List.getElem?_eq_getElem h1)
      have hb : byteAt R i = IntKind.i64.wrap n := by simp [byteAt, h1, hn]
      have e3 : IntKind.i64.wrap ((i : Int) + 1) = (i : Int) + 1 := wrap_i64 (by omega) (by omega)
      simp only [lnS, hAt, hb]
      generalize hAt R i = q
      simp (maxSteps := 1000000) [spec_l01New.l0, List.range_succ, bs_get, setAt, h1, h2, h3, hn, e3])
    (fun x => by
      simp only [lnS, lnE]
      generalize hAt R (lnN R) = q
      by_cases c : R.length < 4000
      · have e : lnN R = R.length := by unfold lnN; omega
        rw [e]
        simp (maxSteps := 1000000) [spec_l01New.l0, List.range_succ, bs_get, setAt]
      · have e : lnN R = 4000 := by unfold lnN; omega
        rw [e]
        simp only [Int.cast_ofNat_Int]
        by_cases c2 : 4000 < R.length
        · have c3 : (4000 : Int) < (R.length : Int) := by omega
          simp (maxSteps := 1000000) [spec_l01New.l0, List.range_succ, bs_get, setAt, c2, c3]
        · have c3 : ¬ (4000 : Int) < (R.length : Int) := by omega
          simp (maxSteps := 1000000) [spec_l01New.l0, List.range_succ, bs_get, setAt, c2, c3])
  simp only [lnS, lnE, hAt] at hr
  generalize hAt R (lnN R) = q at *
  simp at hr
  have e : IntKind.i64.wrap (77201 + (R.length : Int)) = 77201 + (R.length : Int) := wrap_i64 (by omega) (by omega)
  simp (maxSteps := 1000000) [exB, spec_l01New.m, spec_l01New.b, List.range_succ, bs_get, setAt, hr, e]
end Mx

namespace Mx
open Go
/-- a loop whose rounds are told by an invariant alone -/
theorem loop_ex {σ : Type} {f : St → Option (Out × St)} (S : σ → St) (Inv : σ → Prop) (μ : σ → Nat) (Post : Out × St → Prop)
    (h : ∀ s, Inv s → (∃ s', f (S s) = some (.normal, S s') ∧ Inv s' ∧ μ s' < μ s) ∨ (∃ r, f (S s) = some r ∧ r.1 ≠ .normal ∧ Post r)) :
    ∀ m s, Inv s → μ s < m → ∃ r, loopN f m (S s) = some r ∧ Post r
  | 0, s, _, hm => by omega
  | m + 1, s, hi, hm => by
    rcases h s hi with ⟨s', h1, h2, h3⟩ | ⟨⟨o, r⟩, h1, h2, h3⟩
    · obtain ⟨r, q1, q2⟩ := loop_ex S Inv μ Post h m s' h2 (by omega)
      exact ⟨r, by simp only [loopN, h1]; exact q1, q2⟩
    · refine ⟨(o, r), ?_, h3⟩
      simp only [loopN, h1]
      cases o with
      | normal => exact (h2 rfl).elim
      | _ => rfl
end Mx

namespace Mx
open Go
variable {M : Nat → Option Body}
structure PlS where
  i : Nat
  rows : List (List T)
  v : Nat
  vc : Nat
  ic : Nat
  q : Int
  n : Nat
theorem PlS.ex {p : PlS → Prop} : (∃ s, p s) ↔ ∃ i rows v vc ic q n, p ⟨i, rows, v, vc, ic, q, n⟩ := ⟨fun ⟨⟨i, rows, v, vc, ic, q, n⟩, h⟩ => ⟨i, rows, v, vc, ic, q, n, h⟩, fun ⟨i, rows, v, vc, ic, q, n, h⟩ => ⟨⟨i, rows, v, vc, ic, q, n⟩, h⟩⟩
end Mx

namespace Mx
open Go
variable {M : Nat → Option Body}
def uidAt (l : List Mail) (i : Nat) : Int := match l[i]? with | some m => m.uid | none => 0
def keepsUid (a b : Box) (g : Int) : Bool := match mailO a.mails g with
  | none => false
  | some i => match mailO b.mails g with
    | some k => decide (uidAt a.mails i = uidAt b.mails k)
    | none => decide (b.next ≤ uidAt a.mails i)
theorem spec_KeepsUid.says (h : spec_KeepsUid.k M) (a b : Box) (g : Int) (ha : a.mails.length ≤ 1048576) (hb : b.mails.length ≤ 1048576) : run M 22 [.a (encBox a), .a (encBox b), .c (I g)] [] = some (.c (.bool (keepsUid a b g)), []) := by
  have h1 := spec_MailAt.says h.2 a g ha
  have h2 := spec_MailAt.says h.2 b g hb
  refine run_code (b := spec_KeepsUid.m) h.1 ⟨0, ?_⟩
  simp only [encBox] at h1 h2
  unfold keepsUid
  cases hi : mailO a.mails g with
  | none =>
    simp [hi, intO] at h1
    simp [exB, spec_KeepsUid.m, spec_KeepsUid.b, List.range_succ, h1]
  | some i =>
    have li := atO_lt _ _ _ _ _ hi
    simp [hi, intO] at h1
    have di : ¬ (i : Int) < 0 := by omega
    have ui : uidAt a.mails i = a.mails[i].uid := by simp [uidAt, li]
    cases hk : mailO b.mails g with
    | none =>
      simp [hk, intO] at h2
      simp [exB, spec_KeepsUid.m, spec_KeepsUid.b, List.range_succ, h1, h2, di, li, ui, encMail]
    | some k =>
      have lk := atO_lt _ _ _ _ _ hk
      have uk : uidAt b.mails k = b.mails[k].uid := by simp [uidAt, lk]
      simp [hk, intO] at h2
      simp [exB, spec_KeepsUid.m, spec_KeepsUid.b, List.range_succ, h1, h2, di, li, ui, lk, uk, encMail]
theorem impl_KeepsUid.says (h : impl_KeepsUid.k M) (a b : Box) (g : Int) (ha : a.mails.length ≤ 1048576) (hb : b.mails.length ≤ 1048576) : run M 23 [.a (encBox a), .a (encBox b), .c (I g)] [] = some (.c (.bool (keepsUid a b g)), []) := by
  have h1 := impl_MailAt.says h.2 a g ha
  have h2 := impl_MailAt.says h.2 b g hb
  refine run_code (b := impl_KeepsUid.m) h.1 ⟨0, ?_⟩
  simp only [encBox] at h1 h2
  unfold keepsUid
  cases hi : mailO a.mails g with
  | none =>
    simp [hi, intO] at h1
    simp [exB, impl_KeepsUid.m, impl_KeepsUid.b, List.range_succ, h1, h2]
  | some i =>
    have li := atO_lt _ _ _ _ _ hi
    simp [hi, intO] at h1
    have di : ¬ (i : Int) < 0 := by omega
    have ui : uidAt a.mails i = a.mails[i].uid := by simp [uidAt, li]
    cases hk : mailO b.mails g with
    | none =>
      simp [hk, intO] at h2
      simp [exB, impl_KeepsUid.m, impl_KeepsUid.b, List.range_succ, h1, h2, di, li, ui, encMail]
    | some k =>
      have lk := atO_lt _ _ _ _ _ hk
      have uk : uidAt b.mails k = b.mails[k].uid := by simp [uidAt, lk]
      simp [hk, intO] at h2
      by_cases c : a.mails[i].uid = b.mails[k].uid
      · simp [exB, impl_KeepsUid.m, impl_KeepsUid.b, List.range_succ, h1, h2, di, li, ui, lk, uk, encMail, c]
      · have c' : ¬ b.mails[k].uid = a.mails[i].uid := fun q => c q.symm
        simp [exB, impl_KeepsUid.m, impl_KeepsUid.b, List.range_succ, h1, h2, di, li, ui, lk, uk, encMail, c, c']
end Mx

namespace Mx
open Go
def insBy {α : Type} (k : α → Int) (acc : List α) (m : α) : List α := acc.filter (fun x => decide (k x ≤ k m)) ++ [m] ++ acc.filter (fun x => decide (k m < k x))
def sortBy {α : Type} (k : α → Int) (l : List α) : List α := l.foldl (insBy k) []
abbrev SortedBy {α : Type} (k : α → Int) (l : List α) : Prop := l.Pairwise fun x y => k x ≤ k y
theorem insBy_sorted {α : Type} {k : α → Int} {acc : List α} {m : α} (h : SortedBy k acc) : SortedBy k (insBy k acc m) := by
  simp only [insBy, SortedBy, List.pairwise_append, List.pairwise_singleton, List.mem_filter, decide_eq_true_eq, List.mem_singleton, List.mem_append]
  refine ⟨⟨h.filter _, trivial, ?_⟩, h.filter _, ?_⟩
  · rintro a ⟨_, ha⟩ b rfl; exact ha
  · rintro a (⟨_, ha⟩ | rfl) b ⟨_, hb⟩ <;> omega
theorem insBy_perm {α : Type} {k : α → Int} (acc : List α) (m : α) : (insBy k acc m).Perm (m :: acc) := by
  have : ∀ l : List α, (l.filter (fun x => decide (k x ≤ k m)) ++ l.filter (fun x => decide (k m < k x))).Perm l := by
    intro l
    have h := List.filter_append_perm (fun x => decide (k x ≤ k m)) l
    have e : (fun x => !decide (k x ≤ k m)) = fun x => decide (k m < k x) := by
      funext x; rw [Bool.eq_iff_iff]; simp
    rwa [e] at h
  refine List.Perm.trans ?_ ((this acc).cons m)
  unfold insBy
  rw [List.append_assoc]
  exact List.perm_middle
theorem foldBy_perm {α : Type} {k : α → Int} : ∀ (l acc : List α), (l.foldl (insBy k) acc).Perm (l ++ acc)
  | [], acc => List.Perm.refl _
  | x :: l, acc => by
    refine (foldBy_perm l (insBy k acc x)).trans ?_
    refine ((insBy_perm acc x).append_left l).trans ?_
    exact List.perm_middle
theorem foldBy_sorted {α : Type} {k : α → Int} : ∀ (l acc : List α), SortedBy k acc → SortedBy k (l.foldl (insBy k) acc)
  | [], acc, h => h
  | x :: l, acc, h => foldBy_sorted l _ (insBy_sorted h)
theorem sortBy_perm {α : Type} {k : α → Int} (l : List α) : (sortBy k l).Perm l := by unfold sortBy; simpa using foldBy_perm (k := k) l []
theorem sortBy_sorted {α : Type} {k : α → Int} (l : List α) : SortedBy k (sortBy k l) := foldBy_sorted l [] List.Pairwise.nil
theorem sortBy_mem {α : Type} {k : α → Int} {l : List α} {z : α} : z ∈ sortBy k l ↔ z ∈ l := (sortBy_perm l).mem_iff
theorem sortBy_len {α : Type} {k : α → Int} (l : List α) : (sortBy k l).length = l.length := (sortBy_perm l).length_eq
/-- ascending by a key, and the same things: the same -/
abbrev AscBy {α : Type} (k : α → Int) (l : List α) : Prop := l.Pairwise fun x y => k x < k y
theorem ascBy_ext {α : Type} {k : α → Int} : ∀ {a b : List α}, AscBy k a → AscBy k b → (∀ x, x ∈ a ↔ x ∈ b) → a = b
  | [], [], _, _, _ => rfl
  | [], y :: b, _, _, h => absurd ((h y).2 (List.mem_cons_self ..)) (by simp)
  | x :: a, [], _, _, h => absurd ((h x).1 (List.mem_cons_self ..)) (by simp)
  | x :: a, y :: b, ha, hb, h => by
    obtain ⟨ha1, ha2⟩ := List.pairwise_cons.1 ha
    obtain ⟨hb1, hb2⟩ := List.pairwise_cons.1 hb
    have e : x = y := by
      rcases List.mem_cons.1 ((h x).1 (List.mem_cons_self ..)) with q | q
      · exact q
      · rcases List.mem_cons.1 ((h y).2 (List.mem_cons_self ..)) with q' | q'
        · exact q'.symm
        · have := ha1 y q'; have := hb1 x q; omega
    subst e
    congr 1
    refine ascBy_ext ha2 hb2 fun z => ⟨fun hz => ?_, fun hz => ?_⟩
    · rcases List.mem_cons.1 ((h z).1 (List.mem_cons_of_mem _ hz)) with q | q
      · have := ha1 z hz; rw [q] at this; omega
      · exact q
    · rcases List.mem_cons.1 ((h z).2 (List.mem_cons_of_mem _ hz)) with q | q
      · have := hb1 z hz; rw [q] at this; omega
      · exact q
theorem asc_of_sorted {α : Type} {k : α → Int} : ∀ {l : List α}, SortedBy k l → (l.map k).Nodup → AscBy k l
  | [], _, _ => List.Pairwise.nil
  | x :: l, h, hn => by
    obtain ⟨h1, h2⟩ := List.pairwise_cons.1 h
    rw [List.map_cons, List.nodup_cons] at hn
    refine List.pairwise_cons.2 ⟨fun y hy => ?_, asc_of_sorted h2 hn.2⟩
    have := h1 y hy
    have : k x ≠ k y := fun e => hn.1 (by rw [e]; exact List.mem_map_of_mem hy)
    omega
def later (t w u x : Int) : Bool := decide (u < t) || (decide (t = u) && decide (x < w))
def joinReg (a b : Reg) : Reg := if later b.time b.who a.time a.who = true ∨ later a.time a.who b.time b.who = false ∧ a.val < b.val then b else a
def joinFlags (a b : List Reg) : List Reg := List.zipWith joinReg a b
def maxT (a b : List UInt8) : List UInt8 := if bless a b = true then b else a
def joinMail (a b : Mail) : Mail := if a.gid = b.gid then ⟨a.gid, Max.max a.uid b.uid, joinFlags a.flags b.flags, maxT a.text b.text⟩ else a
def mailIn (l : List Mail) (g : Int) : Option Mail := l.find? fun m => decide (m.gid = g)
theorem mailIn_some {l : List Mail} {g : Int} {m : Mail} (h : mailIn l g = some m) : m ∈ l ∧ m.gid = g := ⟨List.mem_of_find?_eq_some h, by simpa using List.find?_some h⟩
theorem mailIn_none {l : List Mail} {g : Int} : mailIn l g = none ↔ ∀ m ∈ l, m.gid ≠ g := by
  unfold mailIn; rw [List.find?_eq_none]; simp
theorem mailIn_mem {l : List Mail} (h : (l.map (·.gid)).Nodup) {m : Mail} (hm : m ∈ l) : mailIn l m.gid = some m := by
  induction l with
  | nil => simp at hm
  | cons x l ih =>
    rw [List.map_cons, List.nodup_cons] at h
    unfold mailIn at ih ⊢
    rw [List.find?_cons]
    rcases List.mem_cons.1 hm with rfl | hm
    · simp
    · have : x.gid ≠ m.gid := fun e => h.1 (by rw [e]; exact List.mem_map_of_mem hm)
      simp only [this, decide_false]
      exact ih h.2 hm
def gids (l : List Mail) : List Int := l.map (·.gid)
def joinM (a b : List Mail) (g : Int) : Mail := match mailIn a g, mailIn b g with
  | some x, some y => joinMail x y
  | some x, none => x
  | none, some y => y
  | none, none => ⟨0, 0, [], []⟩
def needs (a b : Box) (g : Int) : Bool := (holds a g && !keepsUid a b g) || (holds b g && !keepsUid b a g)
def stepJ (a b : Box) (s : List Mail × Int) (g : Int) : List Mail × Int :=
  if g ∈ a.gone ∨ g ∈ b.gone then s else
  if needs a b g = true then (insBy (·.uid) s.1 { joinM a.mails b.mails g with uid := s.2 }, s.2 + 1) else (insBy (·.uid) s.1 (joinM a.mails b.mails g), s.2)
/-- the other side's way -/
def joinedS (a b : Box) : List Mail × Int := (joinGone (gids a.mails) (gids b.mails)).foldl (stepJ a b) ([], Max.max a.next b.next)
/-- this side's way -/
def allM (a b : List Mail) : List Mail := a.map (fun m => match mailIn b m.gid with | some y => joinMail m y | none => m) ++ b.filter (fun m => (mailIn a m.gid).isNone)
def assignU (need : Int → Bool) : Int → List Mail → List Mail × Int
  | n, [] => ([], n)
  | n, m :: l => if need m.gid = true then ({ m with uid := n } :: (assignU need (n + 1) l).1, (assignU need (n + 1) l).2) else (m :: (assignU need n l).1, (assignU need n l).2)
def joinedI (a b : Box) : List Mail × Int :=
  let l := assignU (needs a b) (Max.max a.next b.next) (sortBy (·.gid) ((allM a.mails b.mails).filter fun m => !decide (m.gid ∈ joinGone a.gone b.gone)))
  (sortBy (·.uid) l.1, l.2)
theorem joinMail_gid (a b : Mail) : (joinMail a b).gid = a.gid := by unfold joinMail; split <;> rfl
theorem joinM_gid {a b : List Mail} {g : Int} (h : g ∈ gids a ∨ g ∈ gids b) : (joinM a b g).gid = g := by
  unfold joinM
  cases h1 : mailIn a g with
  | some x =>
    cases h2 : mailIn b g with
    | some y => simp only [joinMail_gid]; exact (mailIn_some h1).2
    | none => exact (mailIn_some h1).2
  | none =>
    cases h2 : mailIn b g with
    | some y => exact (mailIn_some h2).2
    | none =>
      exfalso
      rw [mailIn_none] at h1 h2
      rcases h with h | h
      · obtain ⟨m, hm, e⟩ := List.mem_map.1 h; exact h1 m hm e
      · obtain ⟨m, hm, e⟩ := List.mem_map.1 h; exact h2 m hm e
theorem allM_mem {a b : List Mail} (ha : (gids a).Nodup) (hb : (gids b).Nodup) {m : Mail} : m ∈ allM a b ↔ (m.gid ∈ gids a ∨ m.gid ∈ gids b) ∧ m = joinM a b m.gid := by
  simp only [allM, List.mem_append, List.mem_map, List.mem_filter]
  constructor
  · rintro (⟨x, hx, rfl⟩ | ⟨hm, hn⟩)
    · have h1 := mailIn_mem ha hx
      have hg : x.gid ∈ gids a := List.mem_map_of_mem hx
      cases h2 : mailIn b x.gid with
      | some y =>
        simp only [joinMail_gid]
        refine ⟨.inl hg, ?_⟩
        simp only [joinM, h1, h2]
      | none =>
        simp only
        refine ⟨.inl hg, ?_⟩
        simp only [joinM, h1, h2]
    · have h1 := mailIn_mem hb hm
      simp only [Option.isNone_iff_eq_none] at hn
      refine ⟨.inr (List.mem_map_of_mem hm), ?_⟩
      simp only [joinM, h1, hn]
  · rintro ⟨h, e⟩
    cases h1 : mailIn a m.gid with
    | some x =>
      left
      obtain ⟨k1, k2⟩ := mailIn_some h1
      refine ⟨x, k1, ?_⟩
      rw [e, k2]
      simp only [joinM, h1]
      cases h2 : mailIn b m.gid <;> rfl
    | none =>
      right
      cases h2 : mailIn b m.gid with
      | none =>
        exfalso
        rw [mailIn_none] at h1 h2
        rcases h with h | h
        · obtain ⟨m', hm, e⟩ := List.mem_map.1 h; exact h1 m' hm e
        · obtain ⟨m', hm, e⟩ := List.mem_map.1 h; exact h2 m' hm e
      | some y =>
        refine ⟨?_, by simp⟩
        have : m = y := by rw [e]; simp only [joinM, h1, h2]
        rw [this]; exact (mailIn_some h2).1
theorem allM_nodup {a b : List Mail} (ha : (gids a).Nodup) (hb : (gids b).Nodup) : (gids (allM a b)).Nodup := by
  have e1 : gids (a.map (fun m => match mailIn b m.gid with | some y => joinMail m y | none => m)) = gids a := by
    unfold gids; rw [List.map_map]
    apply List.map_congr_left
    intro m _
    simp only [Function.comp]
    split
    · exact joinMail_gid _ _
    · rfl
  unfold allM
  rw [gids, List.map_append]
  change (gids _ ++ gids _).Nodup
  rw [e1, List.nodup_append]
  refine ⟨ha, ?_, ?_⟩
  · exact hb.sublist (List.Sublist.map _ List.filter_sublist)
  · intro x hx y hy e
    subst e
    obtain ⟨m, hm, rfl⟩ := List.mem_map.1 hy
    rw [List.mem_filter] at hm
    simp only [Option.isNone_iff_eq_none, mailIn_none] at hm
    obtain ⟨m', hm', e⟩ := List.mem_map.1 hx
    exact hm.2 m' hm' e
theorem srt_eq {a b : Box} (ha : (gids a.mails).Nodup) (hb : (gids b.mails).Nodup) :
    sortBy (·.gid) ((allM a.mails b.mails).filter fun m => !decide (m.gid ∈ joinGone a.gone b.gone)) = ((joinGone (gids a.mails) (gids b.mails)).filter fun g => !decide (g ∈ joinGone a.gone b.gone)).map (joinM a.mails b.mails) := by
  refine ascBy_ext (k := fun m : Mail => m.gid) ?_ ?_ fun m => ?_
  · refine asc_of_sorted (sortBy_sorted _) ?_
    have hp := (sortBy_perm (k := fun m : Mail => m.gid) ((allM a.mails b.mails).filter fun m => !decide (m.gid ∈ joinGone a.gone b.gone))).map (fun m : Mail => m.gid)
    rw [hp.nodup_iff]
    exact (allM_nodup ha hb).sublist (List.Sublist.map _ List.filter_sublist)
  · rw [AscBy, List.pairwise_map]
    have h := (joinGone_asc (gids a.mails) (gids b.mails)).filter (fun g => !decide (g ∈ joinGone a.gone b.gone))
    refine List.Pairwise.imp_of_mem ?_ h
    intro x y hx hy hxy
    rw [List.mem_filter, joinGone_mem] at hx hy
    rw [joinM_gid hx.1, joinM_gid hy.1]
    exact hxy
  · rw [sortBy_mem, List.mem_filter, allM_mem ha hb, List.mem_map]
    constructor
    · rintro ⟨⟨h1, h2⟩, h3⟩
      exact ⟨m.gid, List.mem_filter.2 ⟨(joinGone_mem _ _ _).2 h1, h3⟩, h2.symm⟩
    · rintro ⟨g, hg, rfl⟩
      rw [List.mem_filter, joinGone_mem] at hg
      have := joinM_gid hg.1
      rw [this]
      exact ⟨⟨hg.1, rfl⟩, hg.2⟩
theorem fold_assign (a b : Box) : ∀ (gs : List Int) (acc : List Mail) (n : Int), (∀ g ∈ gs, g ∈ gids a.mails ∨ g ∈ gids b.mails) →
    gs.foldl (stepJ a b) (acc, n) = ((assignU (needs a b) n ((gs.filter fun g => !decide (g ∈ joinGone a.gone b.gone)).map (joinM a.mails b.mails))).1.foldl (insBy (·.uid)) acc, (assignU (needs a b) n ((gs.filter fun g => !decide (g ∈ joinGone a.gone b.gone)).map (joinM a.mails b.mails))).2)
  | [], acc, n, _ => by simp [assignU]
  | g :: gs, acc, n, h => by
    have ih := fun acc n => fold_assign a b gs acc n fun g hg => h g (List.mem_cons_of_mem _ hg)
    have hg := joinM_gid (h g (List.mem_cons_self ..))
    rw [List.foldl_cons, stepJ, List.filter_cons]
    by_cases c : g ∈ a.gone ∨ g ∈ b.gone
    · have c' : g ∈ joinGone a.gone b.gone := (joinGone_mem _ _ _).2 c
      rw [if_pos c, ih]
      simp [c']
    · have c' : ¬ g ∈ joinGone a.gone b.gone := fun q => c ((joinGone_mem _ _ _).1 q)
      rw [if_neg c]
      simp only [c', decide_false, Bool.not_false, if_true, List.map_cons, assignU, hg]
      by_cases c2 : needs a b g = true
      · rw [if_pos c2, if_pos c2, ih]; rfl
      · rw [if_neg c2, if_neg c2, ih]; rfl
theorem joined_eq {a b : Box} (ha : (gids a.mails).Nodup) (hb : (gids b.mails).Nodup) : joinedI a b = joinedS a b := by
  unfold joinedI joinedS
  rw [srt_eq ha hb, fold_assign a b _ _ _ fun g hg => (joinGone_mem _ _ _).1 hg]
  rfl
/-- what two boxes come to -/
def joinBox (a b : Box) : Box := if a.gid = b.gid then
    { gid := a.gid, name := if later b.time b.who a.time a.who = true ∨ later a.time a.who b.time b.who = false ∧ bless a.name b.name = true then b.name else a.name,
      time := if later b.time b.who a.time a.who = true ∨ later a.time a.who b.time b.who = false ∧ bless a.name b.name = true then b.time else a.time,
      who := if later b.time b.who a.time a.who = true ∨ later a.time a.who b.time b.who = false ∧ bless a.name b.name = true then b.who else a.who,
      next := (joinedS a b).2, mails := (joinedS a b).1, gone := joinGone a.gone b.gone } else a
end Mx

namespace Mx
open Go
variable {M : Nat → Option Body}
theorem impl_Later.says (h : impl_Later.k M) (t w u x : Int) : run M 275 [.a [I t, I w], .a [I u, I x]] [] = some (.c (.bool (later t w u x)), []) := by
  refine run_code (b := impl_Later.m) h ⟨0, ?_⟩
  unfold later
  by_cases c1 : u < t
  · simp (maxSteps := 1000000) [exB, impl_Later.m, impl_Later.b, List.range_succ, bs_get, setAt, c1]
  by_cases c2 : t = u
  · subst c2; simp (maxSteps := 1000000) [exB, impl_Later.m, impl_Later.b, List.range_succ, bs_get, setAt]
  · simp (maxSteps := 1000000) [exB, impl_Later.m, impl_Later.b, List.range_succ, bs_get, setAt, c1, c2]
theorem spec_Later.says (h : spec_Later.k M) (t w u x : Int) : run M 277 [.a [I t, I w], .a [I u, I x]] [] = some (.c (.bool (later t w u x)), []) := by
  refine run_code (b := spec_Later.m) h ⟨0, ?_⟩
  unfold later
  by_cases c2 : t = u
  · subst c2; simp (maxSteps := 1000000) [exB, spec_Later.m, spec_Later.b, List.range_succ, bs_get, setAt]
  · simp (maxSteps := 1000000) [exB, spec_Later.m, spec_Later.b, List.range_succ, bs_get, setAt, c2]
def putReg (r : Reg) (v t w : Int) : Reg := if later t w r.time r.who = true ∧ regOk ⟨v, t, w⟩ = true then ⟨v, t, w⟩ else r
theorem spec_PutReg.says (h : spec_PutReg.k M) (r : Reg) (v t w : Int) : run M 243 [.a (encReg r), .c (I v), .a [I t, I w]] [] = some (.a (encReg (putReg r v t w)), []) := by
  obtain ⟨h0, k1, k2⟩ := h
  have h1 := spec_RegOk.says k1 ⟨v, t, w⟩
  have h2 := spec_Later.says k2 t w r.time r.who
  refine run_code (b := spec_PutReg.m) h0 ⟨0, ?_⟩
  unfold putReg
  simp only [encReg] at h1
  generalize later t w r.time r.who = a at *
  generalize regOk ⟨v, t, w⟩ = b at *
  cases a <;> cases b <;> simp (maxSteps := 1000000) [exB, spec_PutReg.m, spec_PutReg.b, List.range_succ, bs_get, setAt, h1, h2, encReg]
def setFlag (n t w : Int) (i : Nat) (r : Reg) : Reg := if r.val = bitOf n i then r else putReg r (bitOf n i) t w
def setFlags (l : List Reg) (n t w : Int) : List Reg := if flagsOk l = true ∧ inR 0 n 7 = true then l.mapIdx (setFlag n t w) else l
/-- the first k are set -/
def setTo (l : List Reg) (n t w : Int) (k : Nat) : List Reg := l.mapIdx fun i r => if i < k then setFlag n t w i r else r
theorem setTo_zero (l : List Reg) (n t w : Int) : setTo l n t w 0 = l := by
  unfold setTo; simp [List.mapIdx_eq_iff]
theorem setTo_all (l : List Reg) (n t w : Int) : setTo l n t w l.length = l.mapIdx (setFlag n t w) := by
  unfold setTo
  apply List.ext_getElem
  · simp
  · intro i h1 h2; simp at h1 ⊢; intro h; omega
theorem setTo_len (l : List Reg) (n t w : Int) (k : Nat) : (setTo l n t w k).length = l.length := by simp [setTo]
theorem setTo_at (l : List Reg) (n t w : Int) (k : Nat) (h : k < l.length) : (setTo l n t w k)[k]'(by simpa [setTo] using h) = l[k] := by simp [setTo]
theorem setTo_succ (l : List Reg) (n t w : Int) (k : Nat) (h : k < l.length) : setTo l n t w (k + 1) = (setTo l n t w k).set k (setFlag n t w k l[k]) := by
  unfold setTo
  apply List.ext_getElem
  · simp
  · intro i h1 h2
    simp only [List.getElem_mapIdx, List.getElem_set]
    by_cases c : k = i
    · subst c; simp
    · rw [if_neg c]
      by_cases c2 : i < k
      · rw [if_pos c2, if_pos (by omega)]
      · rw [if_neg c2, if_neg (by omega)]
theorem bitOf_range (n : Int) (i : Nat) : 0 ≤ bitOf n i ∧ bitOf n i ≤ 1 := by unfold bitOf; omega
end Mx

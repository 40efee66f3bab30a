/-
  Small codes: impl.copyRegs, impl.copyMail, impl.copyBox, impl.FlagsNew, impl.AddMail, laws.sameInts, laws.sameBox, impl.added, slices.Delete[[]impl.Mail,impl.Mail], impl.TakeOut, impl.Later, impl.PutReg, impl.SetFlags, impl.FlagMail.
-/
import Derived.Test.YtpocolhpkkkmeaaMxTo
import Derived.Test.YtpocolhpkkkmeaaMxB
import Derived.Lib.SlicesCompact
set_option linter.unusedSimpArgs false
set_option linter.unusedVariables false
namespace Mx
open Go
def impl_copyRegs.b : C := .seq (.reg [⟨some 2, .nil 3, none⟩] [0] [])
  (.seq (.reg [⟨some 3, .bslice 3 0 [.int .i64 0, .int .i64 0, .int .i64 0] [], none⟩,
    ⟨some 4, .mv (.t 0), none⟩,
    ⟨some 5, .app 3 24 (.t 3) (.t 4), none⟩,
    ⟨some 2, .mv (.t 5), none⟩] [2] [2, 3, 5])
  (.ret))
def impl_copyRegs.m : Fn := { np := 1, body := impl_copyRegs.b, res := [.tmp 2] }
def impl_copyRegs.k (M : Nat → Option Body) : Prop := M 239 = some (.code impl_copyRegs.m)
def impl_copyMail.b : C := .seq (.reg [⟨some 1, .box (.t 0), none⟩,
    ⟨some 2, .alloc [.int .i64 0, .int .i64 0, .nils 3, .str ⟨#[]⟩], none⟩] [1, 2] [1, 2, 10500])
  (.seq (.reg [⟨some 3, .faddr 2 (.t 1), none⟩,
    ⟨some 4, .load false 1 (.t 3), none⟩,
    ⟨some 5, .call 239 [.t 4] [] [(0, 10500)], none⟩,
    ⟨some 6, .faddr 2 (.t 1), none⟩,
    ⟨none, .store 1 (.t 6) (.t 5), none⟩] [1, 2] [1, 2, 10500])
  (.seq (.reg [⟨some 7, .load true 4 (.t 1), none⟩,
    ⟨none, .store 4 (.t 2) (.t 7), none⟩] [2] [2, 10500])
  (.ret)))
def impl_copyMail.m : Fn := { np := 1, body := impl_copyMail.b, res := [.cell 2 true 4] }
def impl_copyMail.k (M : Nat → Option Body) : Prop := M 233 = some (.code impl_copyMail.m) ∧ impl_copyRegs.k M
def impl_copyBox.l0 : C := .seq (.reg [⟨some 13, .bin .lss (.t 12) (.t 11), none⟩] [1, 2, 3, 10, 11, 12, 13] [1, 2, 3, 7, 21, 12600])
  (.seq (.cond (.t 13) (.skip) (.exit 0))
  (.seq (.block 1 (.seq (.reg [⟨some 14, .iaddr 4 (.t 10) (.t 12), none⟩,
    ⟨some 15, .load true 4 (.t 14), none⟩,
    ⟨some 5, .alloc [.int .i64 0, .int .i64 0, .nils 3, .str ⟨#[]⟩], none⟩,
    ⟨none, .store 4 (.t 5) (.t 15), none⟩] [1, 2, 3, 5, 10, 11, 12] [1, 2, 3, 5, 7, 21, 12600])
  (.regd [⟨some 16, .faddr 5 (.t 3), none⟩,
    ⟨some 17, .load false 1 (.t 16), none⟩,
    ⟨some 18, .load true 4 (.t 5), none⟩,
    ⟨some 19, .call 233 [.t 18] [] [], none⟩,
    ⟨some 20, .bslice 4 1 [.int .i64 0, .int .i64 0, .nils 3, .str ⟨#[]⟩] [(0, .t 19)], none⟩,
    ⟨some 21, .app 4 56 (.t 17) (.t 20), none⟩,
    ⟨some 22, .faddr 5 (.t 3), none⟩,
    ⟨none, .store 1 (.t 22) (.t 21), none⟩] [[], [0], [], [2], [2, 3], List.range 5, List.range 6, List.range 7] [1, 2, 3, 10, 11, 12] [1, 2, 3, 7, 21, 12600])))
  (.reg [⟨some 23, .bin .add (.t 12) (.k (.int .i64 1)), none⟩,
    ⟨some 12, .mv (.t 23), none⟩] [1, 2, 3, 10, 11, 12] [1, 2, 3, 7, 21, 12600])))
def impl_copyBox.b : C := .seq (.reg [⟨some 1, .box (.t 0), none⟩,
    ⟨some 2, .alloc [.int .i64 0, .str ⟨#[]⟩, .int .i64 0, .int .i64 0, .int .i64 0, .nils 4, .nils 1], none⟩] [1, 2] [1, 2, 7, 21, 12600])
  (.seq (.reg [⟨some 6, .load true 7 (.t 1), none⟩,
    ⟨some 3, .alloc [.int .i64 0, .str ⟨#[]⟩, .int .i64 0, .int .i64 0, .int .i64 0, .nils 4, .nils 1], none⟩,
    ⟨none, .store 7 (.t 3) (.t 6), none⟩] [1, 2, 3] [1, 2, 3, 7, 21, 12600])
  (.seq (.reg [⟨some 7, .bslice 4 0 [.int .i64 0, .int .i64 0, .nils 3, .str ⟨#[]⟩] [], none⟩,
    ⟨some 8, .faddr 5 (.t 3), none⟩,
    ⟨none, .store 1 (.t 8) (.t 7), none⟩] [1, 2, 3] [1, 2, 3, 7, 21, 12600])
  (.seq (.seq (.reg [⟨some 9, .faddr 5 (.t 1), none⟩,
    ⟨some 10, .load false 1 (.t 9), none⟩,
    ⟨some 11, .len (.t 10), none⟩,
    ⟨some 12, .mv (.k (.int .i64 0)), none⟩] [1, 2, 3, 10, 11, 12] [1, 2, 3, 7, 21, 12600])
  (.block 0 (.loop impl_copyBox.l0)))
  (.seq (.reg [⟨some 24, .faddr 6 (.t 1), none⟩,
    ⟨some 25, .load false 1 (.t 24), none⟩,
    ⟨some 26, .call 134 [.t 25] [] [(0, 12600)], none⟩,
    ⟨some 27, .faddr 6 (.t 3), none⟩,
    ⟨none, .store 1 (.t 27) (.t 26), none⟩] [2, 3] [2, 3, 7, 21, 12600])
  (.seq (.reg [⟨some 28, .load true 7 (.t 3), none⟩,
    ⟨none, .store 7 (.t 2) (.t 28), none⟩] [2] [2, 7, 21, 12600])
  (.ret))))))
def impl_copyBox.m : Fn := { np := 1, body := impl_copyBox.b, res := [.cell 2 true 7] }
def impl_copyBox.k (M : Nat → Option Body) : Prop := M 155 = some (.code impl_copyBox.m) ∧ impl_copyInts.k M ∧ impl_copyMail.k M
def impl_FlagsNew.l0 : C := .seq (.reg [⟨some 9, .bin .lss (.t 8) (.k (.int .i64 3)), none⟩] [0, 3, 5, 8, 9] [3, 7, 19])
  (.seq (.cond (.t 9) (.skip) (.exit 0))
  (.seq (.block 1 (.seq (.reg [⟨some 10, .mv (.t 8), none⟩,
    ⟨some 6, .mv (.t 10), none⟩] [0, 3, 5, 6, 8] [3, 7, 19])
  (.regd [⟨some 11, .mv (.t 5), none⟩,
    ⟨some 12, .mv (.t 0), none⟩,
    ⟨some 13, .mv (.t 6), none⟩,
    ⟨some 14, .bin .shr (.t 12) (.t 13), none⟩,
    ⟨some 15, .bin .and (.t 14) (.k (.int .i64 1)), none⟩,
    ⟨some 16, .load true 2 (.t 3), none⟩,
    ⟨some 17, .build [.int .i64 0, .int .i64 0, .int .i64 0] [(0, 1, .t 15), (1, 2, .t 16)], none⟩,
    ⟨some 18, .bslice 3 1 [.int .i64 0, .int .i64 0, .int .i64 0] [(0, .t 17)], none⟩,
    ⟨some 19, .app 3 24 (.t 11) (.t 18), none⟩,
    ⟨some 5, .mv (.t 19), none⟩] [[], [], [], [1, 2], [1, 2, 3], [], [1, 2, 3, 4, 5], [1, 2, 3, 4, 5, 6], List.range 8, List.range 9] [0, 3, 5, 8] [3, 7, 19])))
  (.reg [⟨some 20, .bin .add (.t 8) (.k (.int .i64 1)), none⟩,
    ⟨some 8, .mv (.t 20), none⟩] [0, 3, 5, 8] [3, 7, 19])))
def impl_FlagsNew.b : C := .seq (.reg [⟨some 3, .box (.t 1), none⟩,
    ⟨some 4, .nil 3, none⟩] [0, 3] [3])
  (.seq (.reg [⟨some 7, .bslice 3 0 [.int .i64 0, .int .i64 0, .int .i64 0] [], none⟩,
    ⟨some 5, .mv (.t 7), none⟩] [0, 3, 5] [3, 7, 19])
  (.seq (.seq (.reg [⟨some 8, .mv (.k (.int .i64 0)), none⟩] [0, 3, 5, 8] [3, 7, 19])
  (.block 0 (.loop impl_FlagsNew.l0)))
  (.seq (.reg [⟨some 21, .mv (.t 5), none⟩,
    ⟨some 4, .mv (.t 21), none⟩] [4] [4, 7, 19])
  (.ret))))
def impl_FlagsNew.m : Fn := { np := 2, body := impl_FlagsNew.b, res := [.tmp 4] }
def impl_FlagsNew.k (M : Nat → Option Body) : Prop := M 157 = some (.code impl_FlagsNew.m)
def impl_AddMail.b : C := .seq (.reg [⟨some 5, .box (.t 0), none⟩,
    ⟨some 9, .box (.t 4), none⟩,
    ⟨some 10, .alloc [.int .i64 0, .str ⟨#[]⟩, .int .i64 0, .int .i64 0, .int .i64 0, .nils 4, .nils 1], none⟩,
    ⟨some 11, .mv (.k (.bool false)), none⟩] [1, 2, 3, 5, 9, 10] [5, 9, 10, 47, 11405, 11406, 15705, 15706])
  (.seq (.reg [⟨some 13, .load true 7 (.t 5), none⟩,
    ⟨some 14, .call 155 [.t 13] [] [(5, 11405), (6, 11406)], none⟩,
    ⟨some 12, .alloc [.int .i64 0, .str ⟨#[]⟩, .int .i64 0, .int .i64 0, .int .i64 0, .nils 4, .nils 1], none⟩,
    ⟨none, .store 7 (.t 12) (.t 14), none⟩] [1, 2, 3, 5, 9, 10, 12] [5, 9, 10, 12, 47, 11405, 11406, 15705, 15706])
  (.seq (.seq (.reg [⟨some 15, .load true 7 (.t 5), none⟩,
    ⟨some 16, .call 74 [.t 15] [] [], none⟩,
    ⟨some 17, .not (.t 16), none⟩,
    ⟨some 18, .mv (.t 17), none⟩,
    ⟨some 19, .load true 7 (.t 5), some (18, false)⟩,
    ⟨some 20, .mv (.t 1), some (18, false)⟩,
    ⟨some 21, .call 72 [.t 19, .t 20] [] [], some (18, false)⟩,
    ⟨some 22, .bin .geq (.t 21) (.k (.int .i64 0)), some (18, false)⟩,
    ⟨some 23, .pick (.t 18) (.k (.bool true)) (.t 22), none⟩,
    ⟨some 24, .mv (.t 23), none⟩,
    ⟨some 25, .faddr 6 (.t 5), some (24, false)⟩,
    ⟨some 26, .load false 1 (.t 25), some (24, false)⟩,
    ⟨some 27, .mv (.t 1), some (24, false)⟩,
    ⟨some 28, .call 156 [.t 26, .t 27] [] [], some (24, false)⟩,
    ⟨some 29, .pick (.t 24) (.k (.bool true)) (.t 28), none⟩,
    ⟨some 30, .mv (.t 29), none⟩,
    ⟨some 31, .mv (.t 2), some (30, false)⟩,
    ⟨some 32, .call 148 [.t 31] [] [], some (30, false)⟩,
    ⟨some 33, .not (.t 32), some (30, false)⟩,
    ⟨some 34, .pick (.t 30) (.k (.bool true)) (.t 33), none⟩] [1, 2, 3, 5, 9, 10, 12, 34] [5, 9, 10, 12, 47, 11405, 11406, 15705, 15706])
  (.cond (.t 34) (.seq (.reg [⟨some 35, .load true 7 (.t 12), none⟩,
    ⟨none, .store 7 (.t 10) (.t 35), none⟩,
    ⟨some 11, .mv (.k (.bool false)), none⟩] [10, 11] [10, 47, 11405, 11406, 15705, 15706])
  (.ret)) (.skip)))
  (.seq (.regd [⟨some 36, .faddr 5 (.t 12), none⟩,
    ⟨some 37, .load false 1 (.t 36), none⟩,
    ⟨some 38, .mv (.t 1), none⟩,
    ⟨some 39, .faddr 4 (.t 5), none⟩,
    ⟨some 40, .load false 1 (.t 39), none⟩,
    ⟨some 41, .mv (.t 2), none⟩,
    ⟨some 42, .load true 2 (.t 9), none⟩,
    ⟨some 43, .call 157 [.t 41, .t 42] [] [], none⟩,
    ⟨some 44, .mv (.t 3), none⟩,
    ⟨some 45, .build [.int .i64 0, .int .i64 0, .nils 3, .str ⟨#[]⟩] [(0, 1, .t 38), (1, 1, .t 40), (2, 1, .t 43), (3, 1, .t 44)], none⟩,
    ⟨some 46, .bslice 4 1 [.int .i64 0, .int .i64 0, .nils 3, .str ⟨#[]⟩] [(0, .t 45)], none⟩,
    ⟨some 47, .app 4 56 (.t 37) (.t 46), none⟩,
    ⟨some 48, .faddr 5 (.t 12), none⟩,
    ⟨none, .store 1 (.t 48) (.t 47), none⟩] [[], [0], [], [], [3], [], [], [5, 6], [], [2, 3, 4, 5, 6, 7, 8], [2, 3, 4, 5, 6, 7, 8, 9], List.range 11, List.range 12, List.range 13] [5, 10, 12] [5, 10, 12, 47, 11405, 11406, 15705, 15706])
  (.seq (.reg [⟨some 49, .faddr 4 (.t 12), none⟩,
    ⟨some 50, .load false 1 (.t 49), none⟩,
    ⟨some 51, .bin .add (.t 50) (.k (.int .i64 1)), none⟩,
    ⟨some 52, .faddr 4 (.t 12), none⟩,
    ⟨none, .store 1 (.t 52) (.t 51), none⟩] [5, 10, 12] [5, 10, 12, 47, 11405, 11406, 15705, 15706])
  (.seq (.seq (.reg [⟨some 53, .load true 7 (.t 12), none⟩,
    ⟨some 54, .call 74 [.t 53] [] [], none⟩,
    ⟨some 55, .not (.t 54), none⟩] [5, 10, 12, 55] [5, 10, 12, 47, 11405, 11406, 15705, 15706])
  (.cond (.t 55) (.seq (.reg [⟨some 56, .load true 7 (.t 5), none⟩,
    ⟨some 57, .call 155 [.t 56] [] [(5, 15705), (6, 15706)], none⟩,
    ⟨none, .store 7 (.t 10) (.t 57), none⟩,
    ⟨some 11, .mv (.k (.bool false)), none⟩] [10, 11] [10, 47, 11405, 11406, 15705, 15706])
  (.ret)) (.skip)))
  (.seq (.reg [⟨some 58, .load true 7 (.t 12), none⟩,
    ⟨none, .store 7 (.t 10) (.t 58), none⟩,
    ⟨some 11, .mv (.k (.bool true)), none⟩] [10, 11] [10, 47, 11405, 11406, 15705, 15706])
  (.ret)))))))
def impl_AddMail.m : Fn := { np := 5, body := impl_AddMail.b, res := [.cell 10 true 7, .tmp 11] }
def impl_AddMail.k (M : Nat → Option Body) : Prop := M 70 = some (.code impl_AddMail.m) ∧ impl_MailAt.k M ∧ impl_BoxOk.k M ∧ impl_isFlags.k M ∧ impl_copyBox.k M ∧ slices_Contains_int_int.k M ∧ impl_FlagsNew.k M
def laws_sameInts.l0 : C := .seq (.seq (.reg [⟨some 11, .mv (.t 5), none⟩,
    ⟨some 12, .mv (.t 0), none⟩,
    ⟨some 13, .len (.t 12), none⟩,
    ⟨some 14, .bin .lss (.t 11) (.t 13), none⟩] [0, 1, 5, 14] [])
  (.cond (.t 14) (.skip) (.exit 0)))
  (.seq (.block 1 (.seq (.regd [⟨some 17, .mv (.t 0), none⟩,
    ⟨some 18, .mv (.t 5), none⟩,
    ⟨some 19, .iaddr 1 (.t 17) (.t 18), none⟩,
    ⟨some 20, .load false 1 (.t 19), none⟩,
    ⟨some 21, .mv (.t 1), none⟩,
    ⟨some 22, .mv (.t 5), none⟩,
    ⟨some 23, .iaddr 1 (.t 21) (.t 22), none⟩,
    ⟨some 24, .load false 1 (.t 23), none⟩,
    ⟨some 25, .bin .neq (.t 20) (.t 24), none⟩] [[], [], [0, 1], [0, 1, 2], [], [], [4, 5], [4, 5, 6], List.range 8] [0, 1, 5, 25] [])
  (.cond (.t 25) (.seq (.reg [⟨some 4, .mv (.k (.bool false)), none⟩] [4] [])
  (.ret)) (.skip))))
  (.reg [⟨some 15, .mv (.t 5), none⟩,
    ⟨some 16, .bin .add (.t 15) (.k (.int .i64 1)), none⟩,
    ⟨some 5, .mv (.t 16), none⟩] [0, 1, 5] []))
def laws_sameInts.b : C := .seq (.reg [⟨some 4, .mv (.k (.bool false)), none⟩] [0, 1] [])
  (.seq (.seq (.reg [⟨some 6, .mv (.t 0), none⟩,
    ⟨some 7, .len (.t 6), none⟩,
    ⟨some 8, .mv (.t 1), none⟩,
    ⟨some 9, .len (.t 8), none⟩,
    ⟨some 10, .bin .neq (.t 7) (.t 9), none⟩] [0, 1, 10] [])
  (.cond (.t 10) (.seq (.reg [⟨some 4, .mv (.k (.bool false)), none⟩] [4] [])
  (.ret)) (.skip)))
  (.seq (.seq (.reg [⟨some 5, .mv (.k (.int .i64 0)), none⟩] [0, 1, 5] [])
  (.block 0 (.loop laws_sameInts.l0)))
  (.seq (.reg [⟨some 4, .mv (.k (.bool true)), none⟩] [4] [])
  (.ret))))
def laws_sameInts.m : Fn := { np := 2, body := laws_sameInts.b, res := [.tmp 4] }
def laws_sameInts.k (M : Nat → Option Body) : Prop := M 158 = some (.code laws_sameInts.m)
def laws_sameBox.l0 : C := .seq (.seq (.reg [⟨some 49, .mv (.t 5), none⟩,
    ⟨some 50, .faddr 5 (.t 2), none⟩,
    ⟨some 51, .load false 1 (.t 50), none⟩,
    ⟨some 52, .len (.t 51), none⟩,
    ⟨some 53, .bin .lss (.t 49) (.t 52), none⟩] [2, 3, 5, 53] [2, 3])
  (.cond (.t 53) (.skip) (.exit 0)))
  (.seq (.block 1 (.seq (.regd [⟨some 56, .faddr 5 (.t 2), none⟩,
    ⟨some 57, .load false 1 (.t 56), none⟩,
    ⟨some 58, .mv (.t 5), none⟩,
    ⟨some 59, .iaddr 4 (.t 57) (.t 58), none⟩,
    ⟨some 60, .load true 4 (.t 59), none⟩,
    ⟨some 61, .faddr 5 (.t 3), none⟩,
    ⟨some 62, .load false 1 (.t 61), none⟩,
    ⟨some 63, .mv (.t 5), none⟩,
    ⟨some 64, .iaddr 4 (.t 62) (.t 63), none⟩,
    ⟨some 65, .load true 4 (.t 64), none⟩,
    ⟨some 66, .call 159 [.t 60, .t 65] [] [], none⟩,
    ⟨some 67, .not (.t 66), none⟩] [[], [0], [], [0, 1, 2], List.range 4, [], [5], [], [5, 6, 7], [5, 6, 7, 8], List.range 10, List.range 11] [2, 3, 5, 67] [2, 3])
  (.cond (.t 67) (.seq (.reg [⟨some 4, .mv (.k (.bool false)), none⟩] [4] [])
  (.ret)) (.skip))))
  (.reg [⟨some 54, .mv (.t 5), none⟩,
    ⟨some 55, .bin .add (.t 54) (.k (.int .i64 1)), none⟩,
    ⟨some 5, .mv (.t 55), none⟩] [2, 3, 5] [2, 3]))
def laws_sameBox.b : C := .seq (.reg [⟨some 2, .box (.t 0), none⟩,
    ⟨some 3, .box (.t 1), none⟩,
    ⟨some 4, .mv (.k (.bool false)), none⟩] [2, 3] [2, 3])
  (.seq (.seq (.reg [⟨some 6, .faddr 0 (.t 2), none⟩,
    ⟨some 7, .load false 1 (.t 6), none⟩,
    ⟨some 8, .faddr 0 (.t 3), none⟩,
    ⟨some 9, .load false 1 (.t 8), none⟩,
    ⟨some 10, .bin .neq (.t 7) (.t 9), none⟩,
    ⟨some 11, .mv (.t 10), none⟩,
    ⟨some 12, .faddr 1 (.t 2), some (11, false)⟩,
    ⟨some 13, .load false 1 (.t 12), some (11, false)⟩,
    ⟨some 14, .faddr 1 (.t 3), some (11, false)⟩,
    ⟨some 15, .load false 1 (.t 14), some (11, false)⟩,
    ⟨some 16, .bin .neq (.t 13) (.t 15), some (11, false)⟩,
    ⟨some 17, .pick (.t 11) (.k (.bool true)) (.t 16), none⟩,
    ⟨some 18, .mv (.t 17), none⟩,
    ⟨some 19, .faddr 2 (.t 2), some (18, false)⟩,
    ⟨some 20, .load true 2 (.t 19), some (18, false)⟩,
    ⟨some 21, .faddr 2 (.t 3), some (18, false)⟩,
    ⟨some 22, .load true 2 (.t 21), some (18, false)⟩,
    ⟨some 23, .eqs true [.int, .int] (.t 20) (.t 22), some (18, false)⟩,
    ⟨some 24, .pick (.t 18) (.k (.bool true)) (.t 23), none⟩,
    ⟨some 25, .mv (.t 24), none⟩,
    ⟨some 26, .faddr 4 (.t 2), some (25, false)⟩,
    ⟨some 27, .load false 1 (.t 26), some (25, false)⟩,
    ⟨some 28, .faddr 4 (.t 3), some (25, false)⟩,
    ⟨some 29, .load false 1 (.t 28), some (25, false)⟩,
    ⟨some 30, .bin .neq (.t 27) (.t 29), some (25, false)⟩,
    ⟨some 31, .pick (.t 25) (.k (.bool true)) (.t 30), none⟩,
    ⟨some 32, .mv (.t 31), none⟩,
    ⟨some 33, .faddr 5 (.t 2), some (32, false)⟩,
    ⟨some 34, .load false 1 (.t 33), some (32, false)⟩,
    ⟨some 35, .len (.t 34), some (32, false)⟩,
    ⟨some 36, .faddr 5 (.t 3), some (32, false)⟩,
    ⟨some 37, .load false 1 (.t 36), some (32, false)⟩,
    ⟨some 38, .len (.t 37), some (32, false)⟩,
    ⟨some 39, .bin .neq (.t 35) (.t 38), some (32, false)⟩,
    ⟨some 40, .pick (.t 32) (.k (.bool true)) (.t 39), none⟩,
    ⟨some 41, .mv (.t 40), none⟩,
    ⟨some 42, .faddr 6 (.t 2), some (41, false)⟩,
    ⟨some 43, .load false 1 (.t 42), some (41, false)⟩,
    ⟨some 44, .faddr 6 (.t 3), some (41, false)⟩,
    ⟨some 45, .load false 1 (.t 44), some (41, false)⟩,
    ⟨some 46, .call 158 [.t 43, .t 45] [] [], some (41, false)⟩,
    ⟨some 47, .not (.t 46), some (41, false)⟩,
    ⟨some 48, .pick (.t 41) (.k (.bool true)) (.t 47), none⟩] [2, 3, 48] [2, 3])
  (.cond (.t 48) (.seq (.reg [⟨some 4, .mv (.k (.bool false)), none⟩] [4] [])
  (.ret)) (.skip)))
  (.seq (.seq (.reg [⟨some 5, .mv (.k (.int .i64 0)), none⟩] [2, 3, 5] [2, 3])
  (.block 0 (.loop laws_sameBox.l0)))
  (.seq (.reg [⟨some 4, .mv (.k (.bool true)), none⟩] [4] [])
  (.ret))))
def laws_sameBox.m : Fn := { np := 2, body := laws_sameBox.b, res := [.tmp 4] }
def laws_sameBox.k (M : Nat → Option Body) : Prop := M 71 = some (.code laws_sameBox.m) ∧ laws_sameInts.k M ∧ spec_SameMail.k M
def impl_added.b : C := .seq (.reg [⟨some 4, .nil 1, none⟩] [0, 1] [])
  (.seq (.reg [⟨some 6, .mv (.t 0), none⟩,
    ⟨some 7, .call 134 [.t 6] [] [(0, 10700)], none⟩,
    ⟨some 8, .mv (.t 1), none⟩,
    ⟨some 9, .bslice 1 1 [.int .i64 0] [(0, .t 8)], none⟩,
    ⟨some 10, .app 1 8 (.t 7) (.t 9), none⟩,
    ⟨some 5, .mv (.t 10), none⟩] [5] [10, 10700])
  (.seq (.reg [⟨some 11, .mv (.t 5), none⟩,
    ⟨some 12, .call 135 [.t 11] [0] [], none⟩] [5] [10, 10700])
  (.seq (.reg [⟨some 13, .mv (.t 5), none⟩,
    ⟨some 14, .call 136 [.t 13] [0] [(0, 11400)], none⟩,
    ⟨some 4, .mv (.t 14), none⟩] [4] [4, 10, 10700, 11400])
  (.ret))))
def impl_added.m : Fn := { np := 2, body := impl_added.b, res := [.tmp 4] }
def impl_added.k (M : Nat → Option Body) : Prop := M 163 = some (.code impl_added.m) ∧ impl_copyInts.k M ∧ M 135 = some (.ext sortG) ∧ M 136 = some (.ext compactG)
def slices_Delete_impl_Mail_impl_Mail.b : C := .seq (.reg [⟨some 6, .nil 4, none⟩] [0, 1, 2] [0, 26])
  (.seq (.reg [⟨some 8, .mv (.t 0), none⟩,
    ⟨some 9, .mv (.t 1), none⟩,
    ⟨some 10, .mv (.t 2), none⟩,
    ⟨some 11, .mv (.t 0), none⟩,
    ⟨some 12, .len (.t 11), none⟩,
    ⟨some 13, .slc 4 (.t 8) (some (.t 9)) (some (.t 10)) (some (.t 12)), none⟩] [0, 1, 2] [0, 26])
  (.seq (.seq (.reg [⟨some 14, .mv (.t 1), none⟩,
    ⟨some 15, .mv (.t 2), none⟩,
    ⟨some 16, .bin .eql (.t 14) (.t 15), none⟩] [0, 1, 2, 16] [0, 26])
  (.cond (.t 16) (.seq (.reg [⟨some 17, .mv (.t 0), none⟩,
    ⟨some 6, .mv (.t 17), none⟩] [6] [0, 6, 26])
  (.ret)) (.skip)))
  (.seq (.reg [⟨some 18, .mv (.t 0), none⟩,
    ⟨some 19, .len (.t 18), none⟩,
    ⟨some 7, .mv (.t 19), none⟩] [0, 1, 2, 7] [0, 26])
  (.seq (.regd [⟨some 20, .mv (.t 0), none⟩,
    ⟨some 21, .mv (.t 1), none⟩,
    ⟨some 22, .slc 4 (.t 20) none (some (.t 21)) none, none⟩,
    ⟨some 23, .mv (.t 0), none⟩,
    ⟨some 24, .mv (.t 2), none⟩,
    ⟨some 25, .slc 4 (.t 23) (some (.t 24)) none none, none⟩,
    ⟨some 26, .appi 4 56 (.t 22) (.t 25), none⟩,
    ⟨some 0, .mv (.t 26), none⟩] [[], [], [0, 1], [], [], [3, 4], List.range 6, List.range 7] [0, 7] [0, 26])
  (.seq (.reg [⟨some 27, .mv (.t 0), none⟩,
    ⟨some 28, .mv (.t 0), none⟩,
    ⟨some 29, .len (.t 28), none⟩,
    ⟨some 30, .mv (.t 7), none⟩,
    ⟨some 31, .slce 4 (.t 27) (some (.t 29)) (some (.t 30)), none⟩,
    ⟨none, .clr [.int .i64 0, .int .i64 0, .nils 3, .str ⟨#[]⟩] (.t 31), none⟩] [0] [0, 26])
  (.seq (.reg [⟨some 32, .mv (.t 0), none⟩,
    ⟨some 6, .mv (.t 32), none⟩] [6] [0, 6, 26])
  (.ret)))))))
def slices_Delete_impl_Mail_impl_Mail.m : Fn := { np := 3, body := slices_Delete_impl_Mail_impl_Mail.b, res := [.tmp 6] }
def slices_Delete_impl_Mail_impl_Mail.k (M : Nat → Option Body) : Prop := M 162 = some (.code slices_Delete_impl_Mail_impl_Mail.m)
def impl_TakeOut.b : C := .seq (.reg [⟨some 2, .box (.t 0), none⟩,
    ⟨some 4, .alloc [.int .i64 0, .str ⟨#[]⟩, .int .i64 0, .int .i64 0, .int .i64 0, .nils 4, .nils 1], none⟩,
    ⟨some 5, .mv (.k (.bool false)), none⟩] [1, 2, 4] [2, 4, 10905, 10906, 13200, 13700])
  (.seq (.reg [⟨some 8, .load true 7 (.t 2), none⟩,
    ⟨some 9, .call 155 [.t 8] [] [(5, 10905), (6, 10906)], none⟩,
    ⟨some 6, .alloc [.int .i64 0, .str ⟨#[]⟩, .int .i64 0, .int .i64 0, .int .i64 0, .nils 4, .nils 1], none⟩,
    ⟨none, .store 7 (.t 6) (.t 9), none⟩] [1, 2, 4, 6] [2, 4, 6, 10905, 10906, 13200, 13700])
  (.seq (.reg [⟨some 10, .load true 7 (.t 2), none⟩,
    ⟨some 11, .mv (.t 1), none⟩,
    ⟨some 12, .call 72 [.t 10, .t 11] [] [], none⟩,
    ⟨some 7, .mv (.t 12), none⟩] [1, 2, 4, 6, 7] [2, 4, 6, 10905, 10906, 13200, 13700])
  (.seq (.seq (.reg [⟨some 13, .load true 7 (.t 2), none⟩,
    ⟨some 14, .call 74 [.t 13] [] [], none⟩,
    ⟨some 15, .not (.t 14), none⟩,
    ⟨some 16, .mv (.t 15), none⟩,
    ⟨some 17, .mv (.t 7), some (16, false)⟩,
    ⟨some 18, .bin .lss (.t 17) (.k (.int .i64 0)), some (16, false)⟩,
    ⟨some 19, .pick (.t 16) (.k (.bool true)) (.t 18), none⟩,
    ⟨some 20, .mv (.t 19), none⟩,
    ⟨some 21, .faddr 6 (.t 2), some (20, false)⟩,
    ⟨some 22, .load false 1 (.t 21), some (20, false)⟩,
    ⟨some 23, .len (.t 22), some (20, false)⟩,
    ⟨some 24, .bin .eql (.t 23) (.k (.int .i64 40)), some (20, false)⟩,
    ⟨some 25, .pick (.t 20) (.k (.bool true)) (.t 24), none⟩] [1, 2, 4, 6, 7, 25] [2, 4, 6, 10905, 10906, 13200, 13700])
  (.cond (.t 25) (.seq (.reg [⟨some 26, .load true 7 (.t 6), none⟩,
    ⟨none, .store 7 (.t 4) (.t 26), none⟩,
    ⟨some 5, .mv (.k (.bool false)), none⟩] [4, 5] [4, 10905, 10906, 13200, 13700])
  (.ret)) (.skip)))
  (.seq (.reg [⟨some 27, .faddr 5 (.t 6), none⟩,
    ⟨some 28, .load false 1 (.t 27), none⟩,
    ⟨some 29, .mv (.t 7), none⟩,
    ⟨some 30, .mv (.t 7), none⟩,
    ⟨some 31, .bin .add (.t 30) (.k (.int .i64 1)), none⟩,
    ⟨some 32, .call 162 [.t 28, .t 29, .t 31] [0] [(0, 13200)], none⟩,
    ⟨some 33, .faddr 5 (.t 6), none⟩,
    ⟨none, .store 1 (.t 33) (.t 32), none⟩] [1, 2, 4, 6] [2, 4, 6, 10905, 10906, 13200, 13700])
  (.seq (.reg [⟨some 34, .faddr 6 (.t 2), none⟩,
    ⟨some 35, .load false 1 (.t 34), none⟩,
    ⟨some 36, .mv (.t 1), none⟩,
    ⟨some 37, .call 163 [.t 35, .t 36] [] [(0, 13700)], none⟩,
    ⟨some 38, .faddr 6 (.t 6), none⟩,
    ⟨none, .store 1 (.t 38) (.t 37), none⟩] [4, 6] [4, 6, 10905, 10906, 13200, 13700])
  (.seq (.reg [⟨some 39, .load true 7 (.t 6), none⟩,
    ⟨none, .store 7 (.t 4) (.t 39), none⟩,
    ⟨some 5, .mv (.k (.bool true)), none⟩] [4, 5] [4, 10905, 10906, 13200, 13700])
  (.ret)))))))
def impl_TakeOut.m : Fn := { np := 2, body := impl_TakeOut.b, res := [.cell 4 true 7, .tmp 5] }
def impl_TakeOut.k (M : Nat → Option Body) : Prop := M 73 = some (.code impl_TakeOut.m) ∧ impl_MailAt.k M ∧ impl_BoxOk.k M ∧ impl_copyBox.k M ∧ slices_Delete_impl_Mail_impl_Mail.k M ∧ impl_added.k M
def impl_Later.b : C := .seq (.reg [⟨some 2, .box (.t 0), none⟩,
    ⟨some 3, .box (.t 1), none⟩,
    ⟨some 4, .mv (.k (.bool false)), none⟩] [2, 3] [2, 3])
  (.seq (.reg [⟨some 5, .faddr 0 (.t 2), none⟩,
    ⟨some 6, .load false 1 (.t 5), none⟩,
    ⟨some 7, .faddr 0 (.t 3), none⟩,
    ⟨some 8, .load false 1 (.t 7), none⟩,
    ⟨some 9, .bin .gtr (.t 6) (.t 8), none⟩,
    ⟨some 10, .mv (.t 9), none⟩,
    ⟨some 11, .faddr 0 (.t 2), some (10, false)⟩,
    ⟨some 12, .load false 1 (.t 11), some (10, false)⟩,
    ⟨some 13, .faddr 0 (.t 3), some (10, false)⟩,
    ⟨some 14, .load false 1 (.t 13), some (10, false)⟩,
    ⟨some 15, .bin .eql (.t 12) (.t 14), some (10, false)⟩,
    ⟨some 16, .mv (.t 15), some (10, false)⟩,
    ⟨some 17, .faddr 1 (.t 2), some (16, true)⟩,
    ⟨some 18, .load false 1 (.t 17), some (16, true)⟩,
    ⟨some 19, .faddr 1 (.t 3), some (16, true)⟩,
    ⟨some 20, .load false 1 (.t 19), some (16, true)⟩,
    ⟨some 21, .bin .gtr (.t 18) (.t 20), some (16, true)⟩,
    ⟨some 22, .pick (.t 16) (.t 21) (.k (.bool false)), some (10, false)⟩,
    ⟨some 23, .pick (.t 10) (.k (.bool true)) (.t 22), none⟩,
    ⟨some 4, .mv (.t 23), none⟩] [4] [])
  (.ret))
def impl_Later.m : Fn := { np := 2, body := impl_Later.b, res := [.tmp 4] }
def impl_Later.k (M : Nat → Option Body) : Prop := M 275 = some (.code impl_Later.m)
def impl_PutReg.b : C := .seq (.reg [⟨some 3, .box (.t 0), none⟩,
    ⟨some 5, .box (.t 2), none⟩,
    ⟨some 6, .alloc [.int .i64 0, .int .i64 0, .int .i64 0], none⟩] [1, 3, 5, 6] [3, 5, 6])
  (.seq (.reg [⟨some 8, .mv (.t 1), none⟩,
    ⟨some 9, .load true 2 (.t 5), none⟩,
    ⟨some 10, .build [.int .i64 0, .int .i64 0, .int .i64 0] [(0, 1, .t 8), (1, 2, .t 9)], none⟩,
    ⟨some 7, .alloc [.int .i64 0, .int .i64 0, .int .i64 0], none⟩,
    ⟨none, .store 3 (.t 7) (.t 10), none⟩] [3, 5, 6, 7] [3, 5, 6, 7])
  (.seq (.seq (.reg [⟨some 11, .load true 2 (.t 5), none⟩,
    ⟨some 12, .faddr 1 (.t 3), none⟩,
    ⟨some 13, .load true 2 (.t 12), none⟩,
    ⟨some 14, .call 275 [.t 11, .t 13] [] [], none⟩,
    ⟨some 15, .not (.t 14), none⟩,
    ⟨some 16, .mv (.t 15), none⟩,
    ⟨some 17, .load true 3 (.t 7), some (16, false)⟩,
    ⟨some 18, .call 272 [.t 17] [] [], some (16, false)⟩,
    ⟨some 19, .not (.t 18), some (16, false)⟩,
    ⟨some 20, .pick (.t 16) (.k (.bool true)) (.t 19), none⟩] [3, 6, 7, 20] [3, 6, 7])
  (.cond (.t 20) (.seq (.reg [⟨some 21, .load true 3 (.t 3), none⟩,
    ⟨none, .store 3 (.t 6) (.t 21), none⟩] [6] [6])
  (.ret)) (.skip)))
  (.seq (.reg [⟨some 22, .load true 3 (.t 7), none⟩,
    ⟨none, .store 3 (.t 6) (.t 22), none⟩] [6] [6])
  (.ret))))
def impl_PutReg.m : Fn := { np := 3, body := impl_PutReg.b, res := [.cell 6 true 3] }
def impl_PutReg.k (M : Nat → Option Body) : Prop := M 240 = some (.code impl_PutReg.m) ∧ impl_RegOk.k M ∧ impl_Later.k M
def impl_SetFlags.l0 : C := .seq (.reg [⟨some 25, .bin .lss (.t 24) (.t 23), none⟩] [1, 5, 7, 22, 23, 24, 25] [5, 11200])
  (.seq (.cond (.t 25) (.skip) (.exit 0))
  (.seq (.block 1 (.seq (.reg [⟨some 26, .mv (.t 24), none⟩,
    ⟨some 27, .iaddr 3 (.t 22) (.t 24), none⟩,
    ⟨some 28, .load true 3 (.t 27), none⟩,
    ⟨some 9, .alloc [.int .i64 0, .int .i64 0, .int .i64 0], none⟩,
    ⟨some 8, .mv (.t 26), none⟩,
    ⟨none, .store 3 (.t 9) (.t 28), none⟩] [1, 5, 7, 8, 9, 22, 23, 24] [5, 9, 11200])
  (.seq (.reg [⟨some 29, .mv (.t 1), none⟩,
    ⟨some 30, .mv (.t 8), none⟩,
    ⟨some 31, .bin .shr (.t 29) (.t 30), none⟩,
    ⟨some 32, .bin .and (.t 31) (.k (.int .i64 1)), none⟩,
    ⟨some 10, .mv (.t 32), none⟩] [1, 5, 7, 8, 9, 10, 22, 23, 24] [5, 9, 11200])
  (.seq (.reg [⟨some 33, .faddr 0 (.t 9), none⟩,
    ⟨some 34, .load false 1 (.t 33), none⟩,
    ⟨some 35, .mv (.t 10), none⟩,
    ⟨some 36, .bin .neq (.t 34) (.t 35), none⟩] [1, 5, 7, 8, 9, 10, 22, 23, 24, 36] [5, 9, 11200])
  (.cond (.t 36) (.reg [⟨some 37, .mv (.t 7), none⟩,
    ⟨some 38, .mv (.t 8), none⟩,
    ⟨some 39, .load true 3 (.t 9), none⟩,
    ⟨some 40, .mv (.t 10), none⟩,
    ⟨some 41, .load true 2 (.t 5), none⟩,
    ⟨some 42, .call 240 [.t 39, .t 40, .t 41] [] [], none⟩,
    ⟨some 43, .iaddr 3 (.t 37) (.t 38), none⟩,
    ⟨none, .store 3 (.t 43) (.t 42), none⟩] [1, 5, 7, 22, 23, 24] [5, 11200]) (.skip))))))
  (.reg [⟨some 44, .bin .add (.t 24) (.k (.int .i64 1)), none⟩,
    ⟨some 24, .mv (.t 44), none⟩] [1, 5, 7, 22, 23, 24] [5, 11200])))
def impl_SetFlags.b : C := .seq (.reg [⟨some 5, .box (.t 2), none⟩,
    ⟨some 6, .nil 3, none⟩] [0, 1, 5] [5])
  (.seq (.reg [⟨some 11, .mv (.t 0), none⟩,
    ⟨some 12, .call 239 [.t 11] [] [(0, 11200)], none⟩,
    ⟨some 7, .mv (.t 12), none⟩] [0, 1, 5, 7] [5, 11200])
  (.seq (.seq (.reg [⟨some 13, .mv (.t 0), none⟩,
    ⟨some 14, .call 235 [.t 13] [] [], none⟩,
    ⟨some 15, .not (.t 14), none⟩,
    ⟨some 16, .mv (.t 15), none⟩,
    ⟨some 17, .mv (.t 1), some (16, false)⟩,
    ⟨some 18, .call 148 [.t 17] [] [], some (16, false)⟩,
    ⟨some 19, .not (.t 18), some (16, false)⟩,
    ⟨some 20, .pick (.t 16) (.k (.bool true)) (.t 19), none⟩] [1, 5, 7, 20] [5, 11200])
  (.cond (.t 20) (.seq (.reg [⟨some 21, .mv (.t 7), none⟩,
    ⟨some 6, .mv (.t 21), none⟩] [6] [6, 11200])
  (.ret)) (.skip)))
  (.seq (.seq (.reg [⟨some 22, .mv (.t 7), none⟩,
    ⟨some 23, .len (.t 22), none⟩,
    ⟨some 24, .mv (.k (.int .i64 0)), none⟩] [1, 5, 7, 22, 23, 24] [5, 11200])
  (.block 0 (.loop impl_SetFlags.l0)))
  (.seq (.reg [⟨some 45, .mv (.t 7), none⟩,
    ⟨some 6, .mv (.t 45), none⟩] [6] [6, 11200])
  (.ret)))))
def impl_SetFlags.m : Fn := { np := 3, body := impl_SetFlags.b, res := [.tmp 6] }
def impl_SetFlags.k (M : Nat → Option Body) : Prop := M 182 = some (.code impl_SetFlags.m) ∧ impl_isFlags.k M ∧ impl_FlagsOk.k M ∧ impl_copyRegs.k M ∧ impl_PutReg.k M
def impl_FlagMail.b : C := .seq (.reg [⟨some 4, .box (.t 0), none⟩,
    ⟨some 7, .box (.t 3), none⟩,
    ⟨some 8, .alloc [.int .i64 0, .str ⟨#[]⟩, .int .i64 0, .int .i64 0, .int .i64 0, .nils 4, .nils 1], none⟩,
    ⟨some 9, .mv (.k (.bool false)), none⟩] [1, 2, 4, 7, 8] [4, 7, 8, 11305, 11306])
  (.seq (.reg [⟨some 12, .load true 7 (.t 4), none⟩,
    ⟨some 13, .call 155 [.t 12] [] [(5, 11305), (6, 11306)], none⟩,
    ⟨some 10, .alloc [.int .i64 0, .str ⟨#[]⟩, .int .i64 0, .int .i64 0, .int .i64 0, .nils 4, .nils 1], none⟩,
    ⟨none, .store 7 (.t 10) (.t 13), none⟩] [1, 2, 4, 7, 8, 10] [4, 7, 8, 10, 11305, 11306])
  (.seq (.reg [⟨some 14, .load true 7 (.t 4), none⟩,
    ⟨some 15, .mv (.t 1), none⟩,
    ⟨some 16, .call 72 [.t 14, .t 15] [] [], none⟩,
    ⟨some 11, .mv (.t 16), none⟩] [2, 4, 7, 8, 10, 11] [4, 7, 8, 10, 11305, 11306])
  (.seq (.seq (.reg [⟨some 17, .load true 7 (.t 4), none⟩,
    ⟨some 18, .call 74 [.t 17] [] [], none⟩,
    ⟨some 19, .not (.t 18), none⟩,
    ⟨some 20, .mv (.t 19), none⟩,
    ⟨some 21, .mv (.t 11), some (20, false)⟩,
    ⟨some 22, .bin .lss (.t 21) (.k (.int .i64 0)), some (20, false)⟩,
    ⟨some 23, .pick (.t 20) (.k (.bool true)) (.t 22), none⟩,
    ⟨some 24, .mv (.t 23), none⟩,
    ⟨some 25, .mv (.t 2), some (24, false)⟩,
    ⟨some 26, .call 148 [.t 25] [] [], some (24, false)⟩,
    ⟨some 27, .not (.t 26), some (24, false)⟩,
    ⟨some 28, .pick (.t 24) (.k (.bool true)) (.t 27), none⟩,
    ⟨some 29, .mv (.t 28), none⟩,
    ⟨some 30, .load true 2 (.t 7), some (29, false)⟩,
    ⟨some 31, .call 164 [.t 30] [] [], some (29, false)⟩,
    ⟨some 32, .not (.t 31), some (29, false)⟩,
    ⟨some 33, .pick (.t 29) (.k (.bool true)) (.t 32), none⟩] [2, 4, 7, 8, 10, 11, 33] [4, 7, 8, 10, 11305, 11306])
  (.cond (.t 33) (.seq (.reg [⟨some 34, .load true 7 (.t 10), none⟩,
    ⟨none, .store 7 (.t 8) (.t 34), none⟩,
    ⟨some 9, .mv (.k (.bool false)), none⟩] [8, 9] [8, 11305, 11306])
  (.ret)) (.skip)))
  (.seq (.regd [⟨some 35, .faddr 5 (.t 10), none⟩,
    ⟨some 36, .load false 1 (.t 35), none⟩,
    ⟨some 37, .mv (.t 11), none⟩,
    ⟨some 38, .faddr 5 (.t 4), none⟩,
    ⟨some 39, .load false 1 (.t 38), none⟩,
    ⟨some 40, .mv (.t 11), none⟩,
    ⟨some 41, .iaddr 4 (.t 39) (.t 40), none⟩,
    ⟨some 42, .faddr 2 (.t 41), none⟩,
    ⟨some 43, .load false 1 (.t 42), none⟩,
    ⟨some 44, .mv (.t 2), none⟩,
    ⟨some 45, .load true 2 (.t 7), none⟩,
    ⟨some 46, .call 182 [.t 43, .t 44, .t 45] [] [], none⟩,
    ⟨some 47, .iaddr 4 (.t 36) (.t 37), none⟩,
    ⟨some 48, .faddr 2 (.t 47), none⟩,
    ⟨none, .store 1 (.t 48) (.t 46), none⟩] [[], [0], [], [], [3], [], [3, 4, 5], [3, 4, 5, 6], [3, 4, 5, 6, 7], [], [], [3, 4, 5, 6, 7, 8, 9, 10], List.range 12, List.range 13, List.range 14] [8, 10] [8, 10, 11305, 11306])
  (.seq (.reg [⟨some 49, .load true 7 (.t 10), none⟩,
    ⟨none, .store 7 (.t 8) (.t 49), none⟩,
    ⟨some 9, .mv (.k (.bool true)), none⟩] [8, 9] [8, 11305, 11306])
  (.ret))))))
def impl_FlagMail.m : Fn := { np := 4, body := impl_FlagMail.b, res := [.cell 8 true 7, .tmp 9] }
def impl_FlagMail.k (M : Nat → Option Body) : Prop := M 83 = some (.code impl_FlagMail.m) ∧ impl_MailAt.k M ∧ impl_BoxOk.k M ∧ impl_isFlags.k M ∧ impl_copyBox.k M ∧ impl_StampOk.k M ∧ impl_SetFlags.k M
end Mx

/-
  Small codes: spec.l04Copy, spec.l05Copy, spec.l06Copy, spec.FlagsNew, spec.AddMail, spec.Later, spec.PutReg, spec.SetFlags, spec.FlagMail, spec.TakeOut.
-/
namespace Mx
open Go
def spec_l04Copy.b : C := .seq (.reg [⟨some 2, .nil 3, none⟩] [0] [])
  (.seq (.reg [⟨some 3, .bslice 3 0 [.int .i64 0, .int .i64 0, .int .i64 0] [], none⟩,
    ⟨some 4, .mv (.t 0), none⟩,
    ⟨some 5, .app 3 24 (.t 3) (.t 4), none⟩,
    ⟨some 2, .mv (.t 5), none⟩] [2] [2, 3, 5])
  (.ret))
def spec_l04Copy.m : Fn := { np := 1, body := spec_l04Copy.b, res := [.tmp 2] }
def spec_l04Copy.k (M : Nat → Option Body) : Prop := M 241 = some (.code spec_l04Copy.m)
def spec_l05Copy.b : C := .seq (.reg [⟨some 1, .box (.t 0), none⟩,
    ⟨some 2, .alloc [.int .i64 0, .int .i64 0, .nils 3, .str ⟨#[]⟩], none⟩] [1, 2] [1, 2, 10500])
  (.seq (.reg [⟨some 3, .faddr 2 (.t 1), none⟩,
    ⟨some 4, .load false 1 (.t 3), none⟩,
    ⟨some 5, .call 241 [.t 4] [] [(0, 10500)], none⟩,
    ⟨some 6, .faddr 2 (.t 1), none⟩,
    ⟨none, .store 1 (.t 6) (.t 5), none⟩] [1, 2] [1, 2, 10500])
  (.seq (.reg [⟨some 7, .load true 4 (.t 1), none⟩,
    ⟨none, .store 4 (.t 2) (.t 7), none⟩] [2] [2, 10500])
  (.ret)))
def spec_l05Copy.m : Fn := { np := 1, body := spec_l05Copy.b, res := [.cell 2 true 4] }
def spec_l05Copy.k (M : Nat → Option Body) : Prop := M 238 = some (.code spec_l05Copy.m) ∧ spec_l04Copy.k M
def spec_l06Copy.l0 : C := .seq (.seq (.reg [⟨some 8, .mv (.t 4), none⟩,
    ⟨some 9, .faddr 5 (.t 1), none⟩,
    ⟨some 10, .load false 1 (.t 9), none⟩,
    ⟨some 11, .len (.t 10), none⟩,
    ⟨some 12, .bin .lss (.t 8) (.t 11), none⟩] [1, 2, 3, 4, 12] [1, 2, 3, 6, 24, 26, 29])
  (.cond (.t 12) (.skip) (.exit 0)))
  (.seq (.block 1 (.regd [⟨some 15, .faddr 5 (.t 3), none⟩,
    ⟨some 16, .load false 1 (.t 15), none⟩,
    ⟨some 17, .faddr 5 (.t 1), none⟩,
    ⟨some 18, .load false 1 (.t 17), none⟩,
    ⟨some 19, .mv (.t 4), none⟩,
    ⟨some 20, .iaddr 4 (.t 18) (.t 19), none⟩,
    ⟨some 21, .load true 4 (.t 20), none⟩,
    ⟨some 22, .call 238 [.t 21] [] [], none⟩,
    ⟨some 23, .bslice 4 1 [.int .i64 0, .int .i64 0, .nils 3, .str ⟨#[]⟩] [(0, .t 22)], none⟩,
    ⟨some 24, .app 4 56 (.t 16) (.t 23), none⟩,
    ⟨some 25, .faddr 5 (.t 3), none⟩,
    ⟨none, .store 1 (.t 25) (.t 24), none⟩] [[], [0], [], [2], [], [2, 3, 4], [2, 3, 4, 5], [2, 3, 4, 5, 6], [2, 3, 4, 5, 6, 7], List.range 9, List.range 10, List.range 11] [1, 2, 3, 4] [1, 2, 3, 6, 24, 26, 29]))
  (.reg [⟨some 13, .mv (.t 4), none⟩,
    ⟨some 14, .bin .add (.t 13) (.k (.int .i64 1)), none⟩,
    ⟨some 4, .mv (.t 14), none⟩] [1, 2, 3, 4] [1, 2, 3, 6, 24, 26, 29]))
def spec_l06Copy.b : C := .seq (.reg [⟨some 1, .box (.t 0), none⟩,
    ⟨some 2, .alloc [.int .i64 0, .str ⟨#[]⟩, .int .i64 0, .int .i64 0, .int .i64 0, .nils 4, .nils 1], none⟩] [1, 2] [1, 2, 6, 24, 26, 29])
  (.seq (.reg [⟨some 5, .load true 7 (.t 1), none⟩,
    ⟨some 3, .alloc [.int .i64 0, .str ⟨#[]⟩, .int .i64 0, .int .i64 0, .int .i64 0, .nils 4, .nils 1], none⟩,
    ⟨none, .store 7 (.t 3) (.t 5), none⟩] [1, 2, 3] [1, 2, 3, 6, 24, 26, 29])
  (.seq (.reg [⟨some 6, .bslice 4 0 [.int .i64 0, .int .i64 0, .nils 3, .str ⟨#[]⟩] [], none⟩,
    ⟨some 7, .faddr 5 (.t 3), none⟩,
    ⟨none, .store 1 (.t 7) (.t 6), none⟩] [1, 2, 3] [1, 2, 3, 6, 24, 26, 29])
  (.seq (.seq (.reg [⟨some 4, .mv (.k (.int .i64 0)), none⟩] [1, 2, 3, 4] [1, 2, 3, 6, 24, 26, 29])
  (.block 0 (.loop spec_l06Copy.l0)))
  (.seq (.reg [⟨some 26, .bslice 1 0 [.int .i64 0] [], none⟩,
    ⟨some 27, .faddr 6 (.t 1), none⟩,
    ⟨some 28, .load false 1 (.t 27), none⟩,
    ⟨some 29, .app 1 8 (.t 26) (.t 28), none⟩,
    ⟨some 30, .faddr 6 (.t 3), none⟩,
    ⟨none, .store 1 (.t 30) (.t 29), none⟩] [2, 3] [2, 3, 6, 24, 26, 29])
  (.seq (.reg [⟨some 31, .load true 7 (.t 3), none⟩,
    ⟨none, .store 7 (.t 2) (.t 31), none⟩] [2] [2, 6, 24, 26, 29])
  (.ret))))))
def spec_l06Copy.m : Fn := { np := 1, body := spec_l06Copy.b, res := [.cell 2 true 7] }
def spec_l06Copy.k (M : Nat → Option Body) : Prop := M 180 = some (.code spec_l06Copy.m) ∧ spec_l05Copy.k M
def spec_FlagsNew.l0 : C := .seq (.seq (.reg [⟨some 9, .mv (.t 6), none⟩,
    ⟨some 10, .bin .lss (.t 9) (.k (.int .i64 3)), none⟩] [0, 3, 5, 6, 10] [3, 8, 24])
  (.cond (.t 10) (.skip) (.exit 0)))
  (.seq (.block 1 (.seq (.reg [⟨some 7, .mv (.k (.int .i64 0)), none⟩] [0, 3, 5, 6, 7] [3, 8, 24])
  (.seq (.seq (.reg [⟨some 13, .mv (.t 0), none⟩,
    ⟨some 14, .mv (.t 6), none⟩,
    ⟨some 15, .i2i .u64 (.t 14), none⟩,
    ⟨some 16, .bin .shr (.t 13) (.t 15), none⟩,
    ⟨some 17, .bin .rem (.t 16) (.k (.int .i64 2)), none⟩,
    ⟨some 18, .bin .neq (.t 17) (.k (.int .i64 0)), none⟩] [0, 3, 5, 6, 7, 18] [3, 8, 24])
  (.cond (.t 18) (.reg [⟨some 7, .mv (.k (.int .i64 1)), none⟩] [0, 3, 5, 6, 7] [3, 8, 24]) (.skip)))
  (.reg [⟨some 19, .mv (.t 5), none⟩,
    ⟨some 20, .mv (.t 7), none⟩,
    ⟨some 21, .load true 2 (.t 3), none⟩,
    ⟨some 22, .build [.int .i64 0, .int .i64 0, .int .i64 0] [(0, 1, .t 20), (1, 2, .t 21)], none⟩,
    ⟨some 23, .bslice 3 1 [.int .i64 0, .int .i64 0, .int .i64 0] [(0, .t 22)], none⟩,
    ⟨some 24, .app 3 24 (.t 19) (.t 23), none⟩,
    ⟨some 5, .mv (.t 24), none⟩] [0, 3, 5, 6] [3, 8, 24]))))
  (.reg [⟨some 11, .mv (.t 6), none⟩,
    ⟨some 12, .bin .add (.t 11) (.k (.int .i64 1)), none⟩,
    ⟨some 6, .mv (.t 12), none⟩] [0, 3, 5, 6] [3, 8, 24]))
def spec_FlagsNew.b : C := .seq (.reg [⟨some 3, .box (.t 1), none⟩,
    ⟨some 4, .nil 3, none⟩] [0, 3] [3])
  (.seq (.reg [⟨some 8, .bslice 3 0 [.int .i64 0, .int .i64 0, .int .i64 0] [], none⟩,
    ⟨some 5, .mv (.t 8), none⟩] [0, 3, 5] [3, 8, 24])
  (.seq (.seq (.reg [⟨some 6, .mv (.k (.int .i64 0)), none⟩] [0, 3, 5, 6] [3, 8, 24])
  (.block 0 (.loop spec_FlagsNew.l0)))
  (.seq (.reg [⟨some 25, .mv (.t 5), none⟩,
    ⟨some 4, .mv (.t 25), none⟩] [4] [4, 8, 24])
  (.ret))))
def spec_FlagsNew.m : Fn := { np := 2, body := spec_FlagsNew.b, res := [.tmp 4] }
def spec_FlagsNew.k (M : Nat → Option Body) : Prop := M 181 = some (.code spec_FlagsNew.m)
def spec_AddMail.b : C := .seq (.reg [⟨some 5, .box (.t 0), none⟩,
    ⟨some 9, .box (.t 4), none⟩,
    ⟨some 10, .alloc [.int .i64 0, .str ⟨#[]⟩, .int .i64 0, .int .i64 0, .int .i64 0, .nils 4, .nils 1], none⟩,
    ⟨some 11, .mv (.k (.bool false)), none⟩] [1, 2, 3, 5, 9, 10] [5, 9, 10, 47, 11405, 11406, 15705, 15706])
  (.seq (.reg [⟨some 13, .load true 7 (.t 5), none⟩,
    ⟨some 14, .call 180 [.t 13] [] [(5, 11405), (6, 11406)], none⟩,
    ⟨some 12, .alloc [.int .i64 0, .str ⟨#[]⟩, .int .i64 0, .int .i64 0, .int .i64 0, .nils 4, .nils 1], none⟩,
    ⟨none, .store 7 (.t 12) (.t 14), none⟩] [1, 2, 3, 5, 9, 10, 12] [5, 9, 10, 12, 47, 11405, 11406, 15705, 15706])
  (.seq (.seq (.reg [⟨some 15, .load true 7 (.t 5), none⟩,
    ⟨some 16, .call 88 [.t 15] [] [], none⟩,
    ⟨some 17, .not (.t 16), none⟩,
    ⟨some 18, .mv (.t 17), none⟩,
    ⟨some 19, .load true 7 (.t 5), some (18, false)⟩,
    ⟨some 20, .mv (.t 1), some (18, false)⟩,
    ⟨some 21, .call 91 [.t 19, .t 20] [] [], some (18, false)⟩,
    ⟨some 22, .bin .geq (.t 21) (.k (.int .i64 0)), some (18, false)⟩,
    ⟨some 23, .pick (.t 18) (.k (.bool true)) (.t 22), none⟩,
    ⟨some 24, .mv (.t 23), none⟩,
    ⟨some 25, .faddr 6 (.t 5), some (24, false)⟩,
    ⟨some 26, .load false 1 (.t 25), some (24, false)⟩,
    ⟨some 27, .mv (.t 1), some (24, false)⟩,
    ⟨some 28, .call 132 [.t 26, .t 27] [] [], some (24, false)⟩,
    ⟨some 29, .pick (.t 24) (.k (.bool true)) (.t 28), none⟩,
    ⟨some 30, .mv (.t 29), none⟩,
    ⟨some 31, .mv (.t 2), some (30, false)⟩,
    ⟨some 32, .call 98 [.t 31, .k (.int .i64 0), .k (.int .i64 7)] [] [], some (30, false)⟩,
    ⟨some 33, .not (.t 32), some (30, false)⟩,
    ⟨some 34, .pick (.t 30) (.k (.bool true)) (.t 33), none⟩] [1, 2, 3, 5, 9, 10, 12, 34] [5, 9, 10, 12, 47, 11405, 11406, 15705, 15706])
  (.cond (.t 34) (.seq (.reg [⟨some 35, .load true 7 (.t 12), none⟩,
    ⟨none, .store 7 (.t 10) (.t 35), none⟩,
    ⟨some 11, .mv (.k (.bool false)), none⟩] [10, 11] [10, 47, 11405, 11406, 15705, 15706])
  (.ret)) (.skip)))
  (.seq (.regd [⟨some 36, .faddr 5 (.t 12), none⟩,
    ⟨some 37, .load false 1 (.t 36), none⟩,
    ⟨some 38, .mv (.t 1), none⟩,
    ⟨some 39, .faddr 4 (.t 5), none⟩,
    ⟨some 40, .load false 1 (.t 39), none⟩,
    ⟨some 41, .mv (.t 2), none⟩,
    ⟨some 42, .load true 2 (.t 9), none⟩,
    ⟨some 43, .call 181 [.t 41, .t 42] [] [], none⟩,
    ⟨some 44, .mv (.t 3), none⟩,
    ⟨some 45, .build [.int .i64 0, .int .i64 0, .nils 3, .str ⟨#[]⟩] [(0, 1, .t 38), (1, 1, .t 40), (2, 1, .t 43), (3, 1, .t 44)], none⟩,
    ⟨some 46, .bslice 4 1 [.int .i64 0, .int .i64 0, .nils 3, .str ⟨#[]⟩] [(0, .t 45)], none⟩,
    ⟨some 47, .app 4 56 (.t 37) (.t 46), none⟩,
    ⟨some 48, .faddr 5 (.t 12), none⟩,
    ⟨none, .store 1 (.t 48) (.t 47), none⟩] [[], [0], [], [], [3], [], [], [5, 6], [], [2, 3, 4, 5, 6, 7, 8], [2, 3, 4, 5, 6, 7, 8, 9], List.range 11, List.range 12, List.range 13] [5, 10, 12] [5, 10, 12, 47, 11405, 11406, 15705, 15706])
  (.seq (.reg [⟨some 49, .faddr 4 (.t 5), none⟩,
    ⟨some 50, .load false 1 (.t 49), none⟩,
    ⟨some 51, .bin .add (.t 50) (.k (.int .i64 1)), none⟩,
    ⟨some 52, .faddr 4 (.t 12), none⟩,
    ⟨none, .store 1 (.t 52) (.t 51), none⟩] [5, 10, 12] [5, 10, 12, 47, 11405, 11406, 15705, 15706])
  (.seq (.seq (.reg [⟨some 53, .load true 7 (.t 12), none⟩,
    ⟨some 54, .call 88 [.t 53] [] [], none⟩,
    ⟨some 55, .not (.t 54), none⟩] [5, 10, 12, 55] [5, 10, 12, 47, 11405, 11406, 15705, 15706])
  (.cond (.t 55) (.seq (.reg [⟨some 56, .load true 7 (.t 5), none⟩,
    ⟨some 57, .call 180 [.t 56] [] [(5, 15705), (6, 15706)], none⟩,
    ⟨none, .store 7 (.t 10) (.t 57), none⟩,
    ⟨some 11, .mv (.k (.bool false)), none⟩] [10, 11] [10, 47, 11405, 11406, 15705, 15706])
  (.ret)) (.skip)))
  (.seq (.reg [⟨some 58, .load true 7 (.t 12), none⟩,
    ⟨none, .store 7 (.t 10) (.t 58), none⟩,
    ⟨some 11, .mv (.k (.bool true)), none⟩] [10, 11] [10, 47, 11405, 11406, 15705, 15706])
  (.ret)))))))
def spec_AddMail.m : Fn := { np := 5, body := spec_AddMail.b, res := [.cell 10 true 7, .tmp 11] }
def spec_AddMail.k (M : Nat → Option Body) : Prop := M 81 = some (.code spec_AddMail.m) ∧ spec_BoxOk.k M ∧ spec_MailAt.k M ∧ spec_l01In.k M ∧ spec_l06In.k M ∧ spec_l06Copy.k M ∧ spec_FlagsNew.k M
def spec_Later.b : C := .seq (.reg [⟨some 2, .box (.t 0), none⟩,
    ⟨some 3, .box (.t 1), none⟩,
    ⟨some 4, .mv (.k (.bool false)), none⟩] [2, 3] [2, 3])
  (.seq (.seq (.reg [⟨some 5, .faddr 0 (.t 2), none⟩,
    ⟨some 6, .load false 1 (.t 5), none⟩,
    ⟨some 7, .faddr 0 (.t 3), none⟩,
    ⟨some 8, .load false 1 (.t 7), none⟩,
    ⟨some 9, .bin .neq (.t 6) (.t 8), none⟩] [2, 3, 9] [2, 3])
  (.cond (.t 9) (.seq (.reg [⟨some 10, .faddr 0 (.t 2), none⟩,
    ⟨some 11, .load false 1 (.t 10), none⟩,
    ⟨some 12, .faddr 0 (.t 3), none⟩,
    ⟨some 13, .load false 1 (.t 12), none⟩,
    ⟨some 14, .bin .gtr (.t 11) (.t 13), none⟩,
    ⟨some 4, .mv (.t 14), none⟩] [4] [])
  (.ret)) (.skip)))
  (.seq (.reg [⟨some 15, .faddr 1 (.t 2), none⟩,
    ⟨some 16, .load false 1 (.t 15), none⟩,
    ⟨some 17, .faddr 1 (.t 3), none⟩,
    ⟨some 18, .load false 1 (.t 17), none⟩,
    ⟨some 19, .bin .gtr (.t 16) (.t 18), none⟩,
    ⟨some 4, .mv (.t 19), none⟩] [4] [])
  (.ret)))
def spec_Later.m : Fn := { np := 2, body := spec_Later.b, res := [.tmp 4] }
def spec_Later.k (M : Nat → Option Body) : Prop := M 277 = some (.code spec_Later.m)
def spec_PutReg.b : C := .seq (.reg [⟨some 3, .box (.t 0), none⟩,
    ⟨some 5, .box (.t 2), none⟩,
    ⟨some 6, .alloc [.int .i64 0, .int .i64 0, .int .i64 0], none⟩] [1, 3, 5, 6] [3, 5, 6])
  (.seq (.reg [⟨some 8, .mv (.t 1), none⟩,
    ⟨some 9, .load true 2 (.t 5), none⟩,
    ⟨some 10, .build [.int .i64 0, .int .i64 0, .int .i64 0] [(0, 1, .t 8), (1, 2, .t 9)], none⟩,
    ⟨some 7, .alloc [.int .i64 0, .int .i64 0, .int .i64 0], none⟩,
    ⟨none, .store 3 (.t 7) (.t 10), none⟩] [3, 5, 6, 7] [3, 5, 6, 7])
  (.seq (.seq (.reg [⟨some 11, .load true 2 (.t 5), none⟩,
    ⟨some 12, .faddr 1 (.t 3), none⟩,
    ⟨some 13, .load true 2 (.t 12), none⟩,
    ⟨some 14, .call 277 [.t 11, .t 13] [] [], none⟩,
    ⟨some 15, .not (.t 14), none⟩,
    ⟨some 16, .mv (.t 15), none⟩,
    ⟨some 17, .load true 3 (.t 7), some (16, false)⟩,
    ⟨some 18, .call 276 [.t 17] [] [], some (16, false)⟩,
    ⟨some 19, .not (.t 18), some (16, false)⟩,
    ⟨some 20, .pick (.t 16) (.k (.bool true)) (.t 19), none⟩] [3, 6, 7, 20] [3, 6, 7])
  (.cond (.t 20) (.seq (.reg [⟨some 21, .load true 3 (.t 3), none⟩,
    ⟨none, .store 3 (.t 6) (.t 21), none⟩] [6] [6])
  (.ret)) (.skip)))
  (.seq (.reg [⟨some 22, .load true 3 (.t 7), none⟩,
    ⟨none, .store 3 (.t 6) (.t 22), none⟩] [6] [6])
  (.ret))))
def spec_PutReg.m : Fn := { np := 3, body := spec_PutReg.b, res := [.cell 6 true 3] }
def spec_PutReg.k (M : Nat → Option Body) : Prop := M 243 = some (.code spec_PutReg.m) ∧ spec_RegOk.k M ∧ spec_Later.k M
def spec_SetFlags.l0 : C := .seq (.seq (.reg [⟨some 21, .mv (.t 8), none⟩,
    ⟨some 22, .mv (.t 7), none⟩,
    ⟨some 23, .len (.t 22), none⟩,
    ⟨some 24, .bin .lss (.t 21) (.t 23), none⟩] [1, 5, 7, 8, 24] [5, 11100])
  (.cond (.t 24) (.skip) (.exit 0)))
  (.seq (.block 1 (.seq (.reg [⟨some 27, .mv (.t 1), none⟩,
    ⟨some 28, .mv (.t 8), none⟩,
    ⟨some 29, .i2i .u64 (.t 28), none⟩,
    ⟨some 30, .bin .shr (.t 27) (.t 29), none⟩,
    ⟨some 31, .bin .rem (.t 30) (.k (.int .i64 2)), none⟩,
    ⟨some 9, .mv (.t 31), none⟩] [1, 5, 7, 8, 9] [5, 11100])
  (.seq (.reg [⟨some 32, .mv (.t 7), none⟩,
    ⟨some 33, .mv (.t 8), none⟩,
    ⟨some 34, .iaddr 3 (.t 32) (.t 33), none⟩,
    ⟨some 35, .faddr 0 (.t 34), none⟩,
    ⟨some 36, .load false 1 (.t 35), none⟩,
    ⟨some 37, .mv (.t 9), none⟩,
    ⟨some 38, .bin .neq (.t 36) (.t 37), none⟩] [1, 5, 7, 8, 9, 38] [5, 11100])
  (.cond (.t 38) (.regd [⟨some 39, .mv (.t 7), none⟩,
    ⟨some 40, .mv (.t 8), none⟩,
    ⟨some 41, .mv (.t 7), none⟩,
    ⟨some 42, .mv (.t 8), none⟩,
    ⟨some 43, .iaddr 3 (.t 41) (.t 42), none⟩,
    ⟨some 44, .load true 3 (.t 43), none⟩,
    ⟨some 45, .mv (.t 9), none⟩,
    ⟨some 46, .load true 2 (.t 5), none⟩,
    ⟨some 47, .call 243 [.t 44, .t 45, .t 46] [] [], none⟩,
    ⟨some 48, .iaddr 3 (.t 39) (.t 40), none⟩,
    ⟨none, .store 3 (.t 48) (.t 47), none⟩] [[], [], [], [], [2, 3], [2, 3, 4], [], [], [2, 3, 4, 5, 6, 7], List.range 9, List.range 10] [1, 5, 7, 8] [5, 11100]) (.skip)))))
  (.reg [⟨some 25, .mv (.t 8), none⟩,
    ⟨some 26, .bin .add (.t 25) (.k (.int .i64 1)), none⟩,
    ⟨some 8, .mv (.t 26), none⟩] [1, 5, 7, 8] [5, 11100]))
def spec_SetFlags.b : C := .seq (.reg [⟨some 5, .box (.t 2), none⟩,
    ⟨some 6, .nil 3, none⟩] [0, 1, 5] [5])
  (.seq (.reg [⟨some 10, .mv (.t 0), none⟩,
    ⟨some 11, .call 241 [.t 10] [] [(0, 11100)], none⟩,
    ⟨some 7, .mv (.t 11), none⟩] [0, 1, 5, 7] [5, 11100])
  (.seq (.seq (.reg [⟨some 12, .mv (.t 0), none⟩,
    ⟨some 13, .call 242 [.t 12] [] [], none⟩,
    ⟨some 14, .not (.t 13), none⟩,
    ⟨some 15, .mv (.t 14), none⟩,
    ⟨some 16, .mv (.t 1), some (15, false)⟩,
    ⟨some 17, .call 98 [.t 16, .k (.int .i64 0), .k (.int .i64 7)] [] [], some (15, false)⟩,
    ⟨some 18, .not (.t 17), some (15, false)⟩,
    ⟨some 19, .pick (.t 15) (.k (.bool true)) (.t 18), none⟩] [1, 5, 7, 19] [5, 11100])
  (.cond (.t 19) (.seq (.reg [⟨some 20, .mv (.t 7), none⟩,
    ⟨some 6, .mv (.t 20), none⟩] [6] [6, 11100])
  (.ret)) (.skip)))
  (.seq (.seq (.reg [⟨some 8, .mv (.k (.int .i64 0)), none⟩] [1, 5, 7, 8] [5, 11100])
  (.block 0 (.loop spec_SetFlags.l0)))
  (.seq (.reg [⟨some 49, .mv (.t 7), none⟩,
    ⟨some 6, .mv (.t 49), none⟩] [6] [6, 11100])
  (.ret)))))
def spec_SetFlags.m : Fn := { np := 3, body := spec_SetFlags.b, res := [.tmp 6] }
def spec_SetFlags.k (M : Nat → Option Body) : Prop := M 184 = some (.code spec_SetFlags.m) ∧ spec_l01In.k M ∧ spec_l04Copy.k M ∧ spec_FlagsOk.k M ∧ spec_PutReg.k M
def spec_FlagMail.b : C := .seq (.reg [⟨some 4, .box (.t 0), none⟩,
    ⟨some 7, .box (.t 3), none⟩,
    ⟨some 8, .alloc [.int .i64 0, .str ⟨#[]⟩, .int .i64 0, .int .i64 0, .int .i64 0, .nils 4, .nils 1], none⟩,
    ⟨some 9, .mv (.k (.bool false)), none⟩] [1, 2, 4, 7, 8] [4, 7, 8, 11305, 11306])
  (.seq (.reg [⟨some 12, .load true 7 (.t 4), none⟩,
    ⟨some 13, .call 180 [.t 12] [] [(5, 11305), (6, 11306)], none⟩,
    ⟨some 10, .alloc [.int .i64 0, .str ⟨#[]⟩, .int .i64 0, .int .i64 0, .int .i64 0, .nils 4, .nils 1], none⟩,
    ⟨none, .store 7 (.t 10) (.t 13), none⟩] [1, 2, 4, 7, 8, 10] [4, 7, 8, 10, 11305, 11306])
  (.seq (.reg [⟨some 14, .load true 7 (.t 4), none⟩,
    ⟨some 15, .mv (.t 1), none⟩,
    ⟨some 16, .call 91 [.t 14, .t 15] [] [], none⟩,
    ⟨some 11, .mv (.t 16), none⟩] [2, 4, 7, 8, 10, 11] [4, 7, 8, 10, 11305, 11306])
  (.seq (.seq (.reg [⟨some 17, .load true 7 (.t 4), none⟩,
    ⟨some 18, .call 88 [.t 17] [] [], none⟩,
    ⟨some 19, .not (.t 18), none⟩,
    ⟨some 20, .mv (.t 19), none⟩,
    ⟨some 21, .mv (.t 11), some (20, false)⟩,
    ⟨some 22, .bin .lss (.t 21) (.k (.int .i64 0)), some (20, false)⟩,
    ⟨some 23, .pick (.t 20) (.k (.bool true)) (.t 22), none⟩,
    ⟨some 24, .mv (.t 23), none⟩,
    ⟨some 25, .mv (.t 2), some (24, false)⟩,
    ⟨some 26, .call 98 [.t 25, .k (.int .i64 0), .k (.int .i64 7)] [] [], some (24, false)⟩,
    ⟨some 27, .not (.t 26), some (24, false)⟩,
    ⟨some 28, .pick (.t 24) (.k (.bool true)) (.t 27), none⟩,
    ⟨some 29, .mv (.t 28), none⟩,
    ⟨some 30, .load true 2 (.t 7), some (29, false)⟩,
    ⟨some 31, .call 183 [.t 30] [] [], some (29, false)⟩,
    ⟨some 32, .not (.t 31), some (29, false)⟩,
    ⟨some 33, .pick (.t 29) (.k (.bool true)) (.t 32), none⟩] [2, 4, 7, 8, 10, 11, 33] [4, 7, 8, 10, 11305, 11306])
  (.cond (.t 33) (.seq (.reg [⟨some 34, .load true 7 (.t 10), none⟩,
    ⟨none, .store 7 (.t 8) (.t 34), none⟩,
    ⟨some 9, .mv (.k (.bool false)), none⟩] [8, 9] [8, 11305, 11306])
  (.ret)) (.skip)))
  (.seq (.regd [⟨some 35, .faddr 5 (.t 10), none⟩,
    ⟨some 36, .load false 1 (.t 35), none⟩,
    ⟨some 37, .mv (.t 11), none⟩,
    ⟨some 38, .faddr 5 (.t 4), none⟩,
    ⟨some 39, .load false 1 (.t 38), none⟩,
    ⟨some 40, .mv (.t 11), none⟩,
    ⟨some 41, .iaddr 4 (.t 39) (.t 40), none⟩,
    ⟨some 42, .faddr 2 (.t 41), none⟩,
    ⟨some 43, .load false 1 (.t 42), none⟩,
    ⟨some 44, .mv (.t 2), none⟩,
    ⟨some 45, .load true 2 (.t 7), none⟩,
    ⟨some 46, .call 184 [.t 43, .t 44, .t 45] [] [], none⟩,
    ⟨some 47, .iaddr 4 (.t 36) (.t 37), none⟩,
    ⟨some 48, .faddr 2 (.t 47), none⟩,
    ⟨none, .store 1 (.t 48) (.t 46), none⟩] [[], [0], [], [], [3], [], [3, 4, 5], [3, 4, 5, 6], [3, 4, 5, 6, 7], [], [], [3, 4, 5, 6, 7, 8, 9, 10], List.range 12, List.range 13, List.range 14] [8, 10] [8, 10, 11305, 11306])
  (.seq (.reg [⟨some 49, .load true 7 (.t 10), none⟩,
    ⟨none, .store 7 (.t 8) (.t 49), none⟩,
    ⟨some 9, .mv (.k (.bool true)), none⟩] [8, 9] [8, 11305, 11306])
  (.ret))))))
def spec_FlagMail.m : Fn := { np := 4, body := spec_FlagMail.b, res := [.cell 8 true 7, .tmp 9] }
def spec_FlagMail.k (M : Nat → Option Body) : Prop := M 84 = some (.code spec_FlagMail.m) ∧ spec_BoxOk.k M ∧ spec_MailAt.k M ∧ spec_l01In.k M ∧ spec_l06Copy.k M ∧ spec_StampOk.k M ∧ spec_SetFlags.k M
def spec_TakeOut.b : C := .seq (.reg [⟨some 2, .box (.t 0), none⟩,
    ⟨some 4, .alloc [.int .i64 0, .str ⟨#[]⟩, .int .i64 0, .int .i64 0, .int .i64 0, .nils 4, .nils 1], none⟩,
    ⟨some 5, .mv (.k (.bool false)), none⟩] [1, 2, 4] [2, 4, 27, 32, 38, 10905, 10906, 14300])
  (.seq (.reg [⟨some 8, .load true 7 (.t 2), none⟩,
    ⟨some 9, .call 180 [.t 8] [] [(5, 10905), (6, 10906)], none⟩,
    ⟨some 6, .alloc [.int .i64 0, .str ⟨#[]⟩, .int .i64 0, .int .i64 0, .int .i64 0, .nils 4, .nils 1], none⟩,
    ⟨none, .store 7 (.t 6) (.t 9), none⟩] [1, 2, 4, 6] [2, 4, 6, 27, 32, 38, 10905, 10906, 14300])
  (.seq (.reg [⟨some 10, .load true 7 (.t 2), none⟩,
    ⟨some 11, .mv (.t 1), none⟩,
    ⟨some 12, .call 91 [.t 10, .t 11] [] [], none⟩,
    ⟨some 7, .mv (.t 12), none⟩] [1, 2, 4, 6, 7] [2, 4, 6, 27, 32, 38, 10905, 10906, 14300])
  (.seq (.seq (.reg [⟨some 13, .load true 7 (.t 2), none⟩,
    ⟨some 14, .call 88 [.t 13] [] [], none⟩,
    ⟨some 15, .not (.t 14), none⟩,
    ⟨some 16, .mv (.t 15), none⟩,
    ⟨some 17, .mv (.t 7), some (16, false)⟩,
    ⟨some 18, .bin .lss (.t 17) (.k (.int .i64 0)), some (16, false)⟩,
    ⟨some 19, .pick (.t 16) (.k (.bool true)) (.t 18), none⟩,
    ⟨some 20, .mv (.t 19), none⟩,
    ⟨some 21, .faddr 6 (.t 2), some (20, false)⟩,
    ⟨some 22, .load false 1 (.t 21), some (20, false)⟩,
    ⟨some 23, .len (.t 22), some (20, false)⟩,
    ⟨some 24, .bin .geq (.t 23) (.k (.int .i64 40)), some (20, false)⟩,
    ⟨some 25, .pick (.t 20) (.k (.bool true)) (.t 24), none⟩] [1, 2, 4, 6, 7, 25] [2, 4, 6, 27, 32, 38, 10905, 10906, 14300])
  (.cond (.t 25) (.seq (.reg [⟨some 26, .load true 7 (.t 6), none⟩,
    ⟨none, .store 7 (.t 4) (.t 26), none⟩,
    ⟨some 5, .mv (.k (.bool false)), none⟩] [4, 5] [4, 27, 32, 38, 10905, 10906, 14300])
  (.ret)) (.skip)))
  (.seq (.regd [⟨some 27, .bslice 4 0 [.int .i64 0, .int .i64 0, .nils 3, .str ⟨#[]⟩] [], none⟩,
    ⟨some 28, .faddr 5 (.t 6), none⟩,
    ⟨some 29, .load false 1 (.t 28), none⟩,
    ⟨some 30, .mv (.t 7), none⟩,
    ⟨some 31, .slc 4 (.t 29) none (some (.t 30)) none, none⟩,
    ⟨some 32, .app 4 56 (.t 27) (.t 31), none⟩,
    ⟨some 33, .faddr 5 (.t 6), none⟩,
    ⟨some 34, .load false 1 (.t 33), none⟩,
    ⟨some 35, .mv (.t 7), none⟩,
    ⟨some 36, .bin .add (.t 35) (.k (.int .i64 1)), none⟩,
    ⟨some 37, .slc 4 (.t 34) (some (.t 36)) none none, none⟩,
    ⟨some 38, .app 4 56 (.t 32) (.t 37), none⟩,
    ⟨some 39, .faddr 5 (.t 6), none⟩,
    ⟨none, .store 1 (.t 39) (.t 38), none⟩] [[], [], [1], [], [1, 2, 3], List.range 5, [], [6], [], [8], [6, 7, 8, 9], List.range 11, List.range 12, List.range 13] [1, 2, 4, 6] [2, 4, 6, 27, 32, 38, 10905, 10906, 14300])
  (.seq (.reg [⟨some 40, .faddr 6 (.t 2), none⟩,
    ⟨some 41, .load false 1 (.t 40), none⟩,
    ⟨some 42, .mv (.t 1), none⟩,
    ⟨some 43, .call 133 [.t 41, .t 42] [] [(0, 14300)], none⟩,
    ⟨some 44, .faddr 6 (.t 6), none⟩,
    ⟨none, .store 1 (.t 44) (.t 43), none⟩] [4, 6] [4, 6, 27, 32, 38, 10905, 10906, 14300])
  (.seq (.reg [⟨some 45, .load true 7 (.t 6), none⟩,
    ⟨none, .store 7 (.t 4) (.t 45), none⟩,
    ⟨some 5, .mv (.k (.bool true)), none⟩] [4, 5] [4, 27, 32, 38, 10905, 10906, 14300])
  (.ret)))))))
def spec_TakeOut.m : Fn := { np := 2, body := spec_TakeOut.b, res := [.cell 4 true 7, .tmp 5] }
def spec_TakeOut.k (M : Nat → Option Body) : Prop := M 86 = some (.code spec_TakeOut.m) ∧ spec_BoxOk.k M ∧ spec_MailAt.k M ∧ spec_l06Put.k M ∧ spec_l06Copy.k M
end Mx

/-
  Small codes: spec.l01New, spec.l01Byte, spec.l01Below, spec.l01Pick, spec.l05Text, spec.l03Stamp, spec.l06Box, spec.DrawBox, spec.DrawPlaces.
-/
namespace Mx
open Go
def spec_l01New.l0 : C := .seq (.seq (.reg [⟨some 8, .mv (.t 4), none⟩,
    ⟨some 9, .mv (.t 0), none⟩,
    ⟨some 10, .len (.t 9), none⟩,
    ⟨some 11, .bin .lss (.t 8) (.t 10), none⟩,
    ⟨some 12, .mv (.t 11), none⟩,
    ⟨some 13, .mv (.t 4), some (12, true)⟩,
    ⟨some 14, .bin .lss (.t 13) (.k (.int .i64 4000)), some (12, true)⟩,
    ⟨some 15, .pick (.t 12) (.t 14) (.k (.bool false)), none⟩] [0, 3, 4, 15] [])
  (.cond (.t 15) (.skip) (.exit 0)))
  (.seq (.block 1 (.reg [⟨some 18, .mv (.t 3), none⟩,
    ⟨some 19, .bin .mul (.t 18) (.k (.int .i64 131)), none⟩,
    ⟨some 20, .mv (.t 0), none⟩,
    ⟨some 21, .mv (.t 4), none⟩,
    ⟨some 22, .iaddr 1 (.t 20) (.t 21), none⟩,
    ⟨some 23, .load false 1 (.t 22), none⟩,
    ⟨some 24, .i2i .i64 (.t 23), none⟩,
    ⟨some 25, .bin .add (.t 19) (.t 24), none⟩,
    ⟨some 26, .bin .add (.t 25) (.k (.int .i64 7)), none⟩,
    ⟨some 27, .bin .and (.t 26) (.k (.int .i64 1073741823)), none⟩,
    ⟨some 3, .mv (.t 27), none⟩] [0, 3, 4] []))
  (.reg [⟨some 16, .mv (.t 4), none⟩,
    ⟨some 17, .bin .add (.t 16) (.k (.int .i64 1)), none⟩,
    ⟨some 4, .mv (.t 17), none⟩] [0, 3, 4] []))
def spec_l01New.b : C := .seq (.reg [⟨some 2, .np, none⟩] [0] [])
  (.seq (.reg [⟨some 5, .mv (.t 0), none⟩,
    ⟨some 6, .len (.t 5), none⟩,
    ⟨some 7, .bin .add (.k (.int .i64 77201)) (.t 6), none⟩,
    ⟨some 3, .mv (.t 7), none⟩] [0, 3] [])
  (.seq (.seq (.reg [⟨some 4, .mv (.k (.int .i64 0)), none⟩] [0, 3, 4] [])
  (.block 0 (.loop spec_l01New.l0)))
  (.seq (.reg [⟨some 28, .mv (.t 0), none⟩,
    ⟨some 29, .mv (.t 3), none⟩,
    ⟨some 30, .build [.nils 1, .int .i64 0, .int .i64 0] [(0, 1, .t 28), (2, 1, .t 29)], none⟩,
    ⟨some 31, .box (.t 30), none⟩,
    ⟨some 2, .mv (.t 31), none⟩] [2] [31])
  (.ret))))
def spec_l01New.m : Fn := { np := 1, body := spec_l01New.b, res := [.tmp 2] }
def spec_l01New.k (M : Nat → Option Body) : Prop := M 124 = some (.code spec_l01New.m)
def spec_l01Byte.b : C := .seq (.reg [⟨some 2, .mv (.k (.int .i64 0)), none⟩] [0] [0])
  (.seq (.reg [⟨some 4, .mv (.t 0), none⟩,
    ⟨some 5, .mv (.t 0), none⟩,
    ⟨some 6, .nilc (.t 5), none⟩,
    ⟨some 7, .faddr 2 (.t 6), none⟩,
    ⟨some 8, .load false 1 (.t 7), none⟩,
    ⟨some 9, .bin .mul (.t 8) (.k (.int .i64 6364136223846793005)), none⟩,
    ⟨some 10, .bin .add (.t 9) (.k (.int .i64 1442695040888963407)), none⟩,
    ⟨some 11, .nilc (.t 4), none⟩,
    ⟨some 12, .faddr 2 (.t 11), none⟩,
    ⟨none, .store 1 (.t 12) (.t 10), none⟩] [0] [0])
  (.seq (.regd [⟨some 13, .mv (.t 0), none⟩,
    ⟨some 14, .nilc (.t 13), none⟩,
    ⟨some 15, .faddr 2 (.t 14), none⟩,
    ⟨some 16, .load false 1 (.t 15), none⟩,
    ⟨some 17, .bin .shr (.t 16) (.k (.int .u64 33)), none⟩,
    ⟨some 18, .mv (.t 0), none⟩,
    ⟨some 19, .nilc (.t 18), none⟩,
    ⟨some 20, .faddr 2 (.t 19), none⟩,
    ⟨some 21, .load false 1 (.t 20), none⟩,
    ⟨some 22, .bin .shr (.t 21) (.k (.int .u64 45)), none⟩,
    ⟨some 23, .bin .xor (.t 17) (.t 22), none⟩,
    ⟨some 24, .bin .and (.t 23) (.k (.int .i64 255)), none⟩,
    ⟨some 3, .mv (.t 24), none⟩] [[], [0], [0, 1], [0, 1, 2], List.range 4, [], [5], [5, 6], [5, 6, 7], [5, 6, 7, 8], List.range 10, List.range 11, List.range 12] [0, 3] [0])
  (.seq (.seq (.regd [⟨some 25, .mv (.t 0), none⟩,
    ⟨some 26, .nilc (.t 25), none⟩,
    ⟨some 27, .faddr 1 (.t 26), none⟩,
    ⟨some 28, .load false 1 (.t 27), none⟩,
    ⟨some 29, .mv (.t 0), none⟩,
    ⟨some 30, .nilc (.t 29), none⟩,
    ⟨some 31, .faddr 0 (.t 30), none⟩,
    ⟨some 32, .load false 1 (.t 31), none⟩,
    ⟨some 33, .len (.t 32), none⟩,
    ⟨some 34, .bin .lss (.t 28) (.t 33), none⟩] [[], [0], [0, 1], [0, 1, 2], [], [4], [4, 5], [4, 5, 6], [4, 5, 6, 7], List.range 9] [0, 3, 34] [0])
  (.cond (.t 34) (.seq (.regd [⟨some 35, .mv (.t 3), none⟩,
    ⟨some 36, .mv (.t 0), none⟩,
    ⟨some 37, .nilc (.t 36), none⟩,
    ⟨some 38, .faddr 0 (.t 37), none⟩,
    ⟨some 39, .load false 1 (.t 38), none⟩,
    ⟨some 40, .mv (.t 0), none⟩,
    ⟨some 41, .nilc (.t 40), none⟩,
    ⟨some 42, .faddr 1 (.t 41), none⟩,
    ⟨some 43, .load false 1 (.t 42), none⟩,
    ⟨some 44, .iaddr 1 (.t 39) (.t 43), none⟩,
    ⟨some 45, .load false 1 (.t 44), none⟩,
    ⟨some 46, .i2i .i64 (.t 45), none⟩,
    ⟨some 47, .bin .add (.t 35) (.t 46), none⟩,
    ⟨some 48, .bin .and (.t 47) (.k (.int .i64 255)), none⟩,
    ⟨some 3, .mv (.t 48), none⟩] [[], [], [1], [1, 2], [1, 2, 3], [], [5], [5, 6], [5, 6, 7], [1, 2, 3, 4, 5, 6, 7, 8], [1, 2, 3, 4, 5, 6, 7, 8, 9], [1, 2, 3, 4, 5, 6, 7, 8, 9, 10], List.range 12, List.range 13, List.range 14] [0, 3] [0])
  (.reg [⟨some 49, .mv (.t 0), none⟩,
    ⟨some 50, .mv (.t 0), none⟩,
    ⟨some 51, .nilc (.t 50), none⟩,
    ⟨some 52, .faddr 1 (.t 51), none⟩,
    ⟨some 53, .load false 1 (.t 52), none⟩,
    ⟨some 54, .bin .add (.t 53) (.k (.int .i64 1)), none⟩,
    ⟨some 55, .nilc (.t 49), none⟩,
    ⟨some 56, .faddr 1 (.t 55), none⟩,
    ⟨none, .store 1 (.t 56) (.t 54), none⟩] [3] [0])) (.skip)))
  (.seq (.reg [⟨some 57, .mv (.t 3), none⟩,
    ⟨some 2, .mv (.t 57), none⟩] [2] [0])
  (.ret)))))
def spec_l01Byte.m : Fn := { np := 1, body := spec_l01Byte.b, res := [.tmp 2] }
def spec_l01Byte.k (M : Nat → Option Body) : Prop := M 131 = some (.code spec_l01Byte.m)
def spec_l01Below.b : C := .seq (.reg [⟨some 4, .mv (.k (.int .i64 0)), none⟩] [0, 1] [0])
  (.seq (.seq (.reg [⟨some 9, .mv (.t 1), none⟩,
    ⟨some 10, .bin .leq (.t 9) (.k (.int .i64 0)), none⟩] [0, 1, 10] [0])
  (.cond (.t 10) (.seq (.reg [⟨some 4, .mv (.k (.int .i64 0)), none⟩] [4] [0])
  (.ret)) (.skip)))
  (.seq (.seq (.reg [⟨some 11, .mv (.t 1), none⟩,
    ⟨some 12, .bin .leq (.t 11) (.k (.int .i64 256)), none⟩] [0, 1, 12] [0])
  (.cond (.t 12) (.seq (.reg [⟨some 13, .mv (.t 0), none⟩,
    ⟨some 14, .call 131 [.t 13] [0] [], none⟩,
    ⟨some 15, .mv (.t 1), none⟩,
    ⟨some 16, .bin .rem (.t 14) (.t 15), none⟩,
    ⟨some 4, .mv (.t 16), none⟩] [4] [0])
  (.ret)) (.skip)))
  (.seq (.reg [⟨some 17, .mv (.t 0), none⟩,
    ⟨some 18, .call 131 [.t 17] [0] [], none⟩,
    ⟨some 5, .mv (.t 18), none⟩] [0, 1, 5] [0])
  (.seq (.reg [⟨some 19, .mv (.t 0), none⟩,
    ⟨some 20, .call 131 [.t 19] [0] [], none⟩,
    ⟨some 6, .mv (.t 20), none⟩] [0, 1, 5, 6] [0])
  (.seq (.reg [⟨some 21, .mv (.t 0), none⟩,
    ⟨some 22, .call 131 [.t 21] [0] [], none⟩,
    ⟨some 7, .mv (.t 22), none⟩] [0, 1, 5, 6, 7] [0])
  (.seq (.reg [⟨some 23, .mv (.t 0), none⟩,
    ⟨some 24, .call 131 [.t 23] [0] [], none⟩,
    ⟨some 8, .mv (.t 24), none⟩] [1, 5, 6, 7, 8] [0])
  (.seq (.reg [⟨some 25, .mv (.t 5), none⟩,
    ⟨some 26, .bin .mul (.t 25) (.k (.int .i64 16777216)), none⟩,
    ⟨some 27, .mv (.t 6), none⟩,
    ⟨some 28, .bin .mul (.t 27) (.k (.int .i64 65536)), none⟩,
    ⟨some 29, .bin .add (.t 26) (.t 28), none⟩,
    ⟨some 30, .mv (.t 7), none⟩,
    ⟨some 31, .bin .mul (.t 30) (.k (.int .i64 256)), none⟩,
    ⟨some 32, .bin .add (.t 29) (.t 31), none⟩,
    ⟨some 33, .mv (.t 8), none⟩,
    ⟨some 34, .bin .add (.t 32) (.t 33), none⟩,
    ⟨some 35, .mv (.t 1), none⟩,
    ⟨some 36, .bin .rem (.t 34) (.t 35), none⟩,
    ⟨some 4, .mv (.t 36), none⟩] [4] [0])
  (.ret))))))))
def spec_l01Below.m : Fn := { np := 2, body := spec_l01Below.b, res := [.tmp 4] }
def spec_l01Below.k (M : Nat → Option Body) : Prop := M 125 = some (.code spec_l01Below.m) ∧ spec_l01Byte.k M
def spec_l01Pick.b : C := .seq (.reg [⟨some 4, .mv (.k (.str ⟨#[]⟩)), none⟩] [0, 1] [0])
  (.seq (.reg [⟨some 5, .mv (.t 1), none⟩,
    ⟨some 6, .mv (.t 0), none⟩,
    ⟨some 7, .mv (.t 1), none⟩,
    ⟨some 8, .len (.t 7), none⟩,
    ⟨some 9, .call 125 [.t 6, .t 8] [0] [], none⟩,
    ⟨some 10, .iaddr 1 (.t 5) (.t 9), none⟩,
    ⟨some 11, .load false 1 (.t 10), none⟩,
    ⟨some 4, .mv (.t 11), none⟩] [4] [0])
  (.ret))
def spec_l01Pick.m : Fn := { np := 2, body := spec_l01Pick.b, res := [.tmp 4] }
def spec_l01Pick.k (M : Nat → Option Body) : Prop := M 185 = some (.code spec_l01Pick.m) ∧ spec_l01Below.k M
def spec_l05Text.b : C := .seq (.reg [⟨some 2, .mv (.k (.str ⟨#[]⟩)), none⟩] [0] [0])
  (.seq (.reg [⟨some 3, .mv (.t 0), none⟩,
    ⟨some 4, .bslf 1 6 [.str ⟨#[]⟩] [(0, .k (.str ⟨#[104, 101, 108, 108, 111]⟩)), (1, .k (.str ⟨#[104, 105, 10]⟩)), (2, .k (.str ⟨#[]⟩)), (3, .k (.str ⟨#[116, 101, 120, 116, 32, 111, 102, 32, 105, 116]⟩)), (4, .k (.str ⟨#[0, 255]⟩)), (5, .k (.str ⟨#[97, 32, 98]⟩))], none⟩,
    ⟨some 5, .call 185 [.t 3, .t 4] [0] [], none⟩,
    ⟨some 2, .mv (.t 5), none⟩] [2] [0])
  (.ret))
def spec_l05Text.m : Fn := { np := 1, body := spec_l05Text.b, res := [.tmp 2] }
def spec_l05Text.k (M : Nat → Option Body) : Prop := M 174 = some (.code spec_l05Text.m) ∧ spec_l01Pick.k M
def spec_l03Stamp.b : C := .seq (.reg [⟨some 2, .alloc [.int .i64 0, .int .i64 0], none⟩] [0, 2] [0, 2])
  (.seq (.reg [⟨some 3, .mv (.t 0), none⟩,
    ⟨some 4, .call 125 [.t 3, .k (.int .i64 12)] [0] [], none⟩,
    ⟨some 5, .mv (.t 0), none⟩,
    ⟨some 6, .call 125 [.t 5, .k (.int .i64 2)] [0] [], none⟩,
    ⟨some 7, .bin .add (.k (.int .i64 1)) (.t 6), none⟩,
    ⟨some 8, .build [.int .i64 0, .int .i64 0] [(0, 1, .t 4), (1, 1, .t 7)], none⟩,
    ⟨none, .store 2 (.t 2) (.t 8), none⟩] [2] [0, 2])
  (.ret))
def spec_l03Stamp.m : Fn := { np := 1, body := spec_l03Stamp.b, res := [.cell 2 true 2] }
def spec_l03Stamp.k (M : Nat → Option Body) : Prop := M 232 = some (.code spec_l03Stamp.m) ∧ spec_l01Below.k M
def spec_l06Box.l0 : C := .seq (.seq (.reg [⟨some 18, .mv (.t 5), none⟩,
    ⟨some 19, .mv (.t 0), none⟩,
    ⟨some 20, .call 125 [.t 19, .k (.int .i64 12)] [0] [], none⟩,
    ⟨some 21, .bin .lss (.t 18) (.t 20), none⟩] [0, 2, 4, 5, 21] [0, 2, 4, 14905, 14906])
  (.cond (.t 21) (.skip) (.exit 0)))
  (.seq (.block 1 (.seq (.reg [⟨some 24, .mv (.t 0), none⟩,
    ⟨some 25, .call 125 [.t 24, .k (.int .i64 9)] [0] [], none⟩,
    ⟨some 26, .bin .add (.k (.int .i64 10)) (.t 25), none⟩,
    ⟨some 6, .mv (.t 26), none⟩] [0, 2, 4, 5, 6] [0, 2, 4, 14905, 14906])
  (.seq (.reg [⟨some 27, .mv (.t 0), none⟩,
    ⟨some 28, .call 232 [.t 27] [0] [], none⟩,
    ⟨some 7, .alloc [.int .i64 0, .int .i64 0], none⟩,
    ⟨none, .store 2 (.t 7) (.t 28), none⟩] [0, 2, 4, 5, 6, 7] [0, 2, 4, 7, 14905, 14906])
  (.seq (.reg [⟨some 29, .mv (.t 0), none⟩,
    ⟨some 30, .call 125 [.t 29, .k (.int .i64 5)] [0] [], none⟩] [0, 2, 4, 5, 6, 7, 30] [0, 2, 4, 7, 14905, 14906])
  (.block 2 (.seq (.seq (.reg [⟨some 38, .bin .eql (.t 30) (.k (.int .i64 0)), none⟩,
    ⟨some 37, .mv (.t 38), none⟩] [0, 2, 4, 5, 6, 7, 30, 37] [0, 2, 4, 7, 14905, 14906])
  (.cond (.t 37) (.skip) (.seq (.reg [⟨some 39, .bin .eql (.t 30) (.k (.int .i64 1)), none⟩,
    ⟨some 37, .mv (.t 39), none⟩] [0, 2, 4, 5, 6, 7, 30, 37] [0, 2, 4, 7, 14905, 14906])
  (.cond (.t 37) (.skip) (.reg [⟨some 40, .bin .eql (.t 30) (.k (.int .i64 2)), none⟩,
    ⟨some 37, .mv (.t 40), none⟩] [0, 2, 4, 5, 6, 7, 30, 37] [0, 2, 4, 7, 14905, 14906])))))
  (.cond (.t 37) (.shut [14905, 14906] (.regd [⟨some 42, .load true 7 (.t 4), none⟩,
    ⟨some 43, .mv (.t 6), none⟩,
    ⟨some 44, .mv (.t 0), none⟩,
    ⟨some 45, .call 125 [.t 44, .k (.int .i64 8)] [0] [], none⟩,
    ⟨some 46, .mv (.t 0), none⟩,
    ⟨some 47, .call 174 [.t 46] [0] [], none⟩,
    ⟨some 48, .load true 2 (.t 7), none⟩,
    ⟨some 49, .call 81 [.t 42, .t 43, .t 45, .t 47, .t 48] [] [(5, 14905), (6, 14906)], none⟩,
    ⟨some 41, .mv (.t 49), none⟩,
    ⟨some 50, .ext 0 (.t 41), none⟩,
    ⟨some 51, .ext 1 (.t 41), none⟩,
    ⟨none, .store 7 (.t 4) (.t 50), none⟩] [[], [], [], [2], [], [2, 3, 4], [], List.range 7, List.range 8, List.range 9, List.range 9, List.range 10] [0, 2, 4, 5] [0, 2, 4, 14905, 14906])) (.seq (.reg [⟨some 53, .bin .eql (.t 30) (.k (.int .i64 3)), none⟩,
    ⟨some 52, .mv (.t 53), none⟩] [0, 2, 4, 5, 6, 7, 52] [0, 2, 4, 7, 14905, 14906])
  (.cond (.t 52) (.shut [14905, 14906] (.regd [⟨some 55, .load true 7 (.t 4), none⟩,
    ⟨some 56, .mv (.t 6), none⟩,
    ⟨some 57, .mv (.t 0), none⟩,
    ⟨some 58, .call 125 [.t 57, .k (.int .i64 8)] [0] [], none⟩,
    ⟨some 59, .load true 2 (.t 7), none⟩,
    ⟨some 60, .call 84 [.t 55, .t 56, .t 58, .t 59] [] [(5, 14905), (6, 14906)], none⟩,
    ⟨some 54, .mv (.t 60), none⟩,
    ⟨some 61, .ext 0 (.t 54), none⟩,
    ⟨some 62, .ext 1 (.t 54), none⟩,
    ⟨none, .store 7 (.t 4) (.t 61), none⟩] [[], [], [], [2], [], List.range 5, List.range 6, List.range 7, List.range 7, List.range 8] [0, 2, 4, 5] [0, 2, 4, 14905, 14906])) (.shut [14905, 14906] (.reg [⟨some 32, .load true 7 (.t 4), none⟩,
    ⟨some 33, .mv (.t 6), none⟩,
    ⟨some 34, .call 86 [.t 32, .t 33] [] [(5, 14905), (6, 14906)], none⟩,
    ⟨some 31, .mv (.t 34), none⟩,
    ⟨some 35, .ext 0 (.t 31), none⟩,
    ⟨some 36, .ext 1 (.t 31), none⟩,
    ⟨none, .store 7 (.t 4) (.t 35), none⟩] [0, 2, 4, 5] [0, 2, 4, 14905, 14906])))))))))))
  (.reg [⟨some 22, .mv (.t 5), none⟩,
    ⟨some 23, .bin .add (.t 22) (.k (.int .i64 1)), none⟩,
    ⟨some 5, .mv (.t 23), none⟩] [0, 2, 4, 5] [0, 2, 4, 14905, 14906]))
def spec_l06Box.b : C := .seq (.reg [⟨some 2, .alloc [.int .i64 0, .str ⟨#[]⟩, .int .i64 0, .int .i64 0, .int .i64 0, .nils 4, .nils 1], none⟩] [0, 2] [0, 2, 14905, 14906])
  (.seq (.reg [⟨some 8, .mv (.t 0), none⟩,
    ⟨some 9, .call 232 [.t 8] [0] [], none⟩,
    ⟨some 3, .alloc [.int .i64 0, .int .i64 0], none⟩,
    ⟨none, .store 2 (.t 3) (.t 9), none⟩] [0, 2, 3] [0, 2, 3, 14905, 14906])
  (.seq (.regd [⟨some 10, .mv (.t 0), none⟩,
    ⟨some 11, .bslf 1 3 [.str ⟨#[]⟩] [(0, .k (.str ⟨#[105, 110, 98, 111, 120]⟩)), (1, .k (.str ⟨#[119, 111, 114, 107]⟩)), (2, .k (.str ⟨#[111, 108, 100, 57]⟩))], none⟩,
    ⟨some 12, .call 185 [.t 10, .t 11] [0] [], none⟩,
    ⟨some 13, .load true 2 (.t 3), none⟩,
    ⟨some 14, .mv (.t 0), none⟩,
    ⟨some 15, .call 125 [.t 14, .k (.int .i64 4)] [0] [], none⟩,
    ⟨some 16, .bin .add (.k (.int .i64 1)) (.t 15), none⟩,
    ⟨some 17, .build [.int .i64 0, .str ⟨#[]⟩, .int .i64 0, .int .i64 0, .int .i64 0, .nils 4, .nils 1] [(0, 1, .k (.int .i64 7)), (1, 1, .t 12), (2, 2, .t 13), (4, 1, .t 16)], none⟩,
    ⟨some 4, .alloc [.int .i64 0, .str ⟨#[]⟩, .int .i64 0, .int .i64 0, .int .i64 0, .nils 4, .nils 1], none⟩,
    ⟨none, .store 7 (.t 4) (.t 17), none⟩] [[], [], [0, 1], [], [], [0, 1, 2, 4], [0, 1, 2, 4, 5], List.range 7, [], List.range 9] [0, 2, 4] [0, 2, 4, 14905, 14906])
  (.seq (.seq (.reg [⟨some 5, .mv (.k (.int .i64 0)), none⟩] [0, 2, 4, 5] [0, 2, 4, 14905, 14906])
  (.block 0 (.loop spec_l06Box.l0)))
  (.seq (.reg [⟨some 63, .load true 7 (.t 4), none⟩,
    ⟨none, .store 7 (.t 2) (.t 63), none⟩] [2] [0, 2, 14905, 14906])
  (.ret)))))
def spec_l06Box.m : Fn := { np := 1, body := spec_l06Box.b, res := [.cell 2 true 7] }
def spec_l06Box.k (M : Nat → Option Body) : Prop := M 154 = some (.code spec_l06Box.m) ∧ spec_AddMail.k M ∧ spec_FlagMail.k M ∧ spec_TakeOut.k M ∧ spec_l01Below.k M ∧ spec_l05Text.k M ∧ spec_l01Pick.k M ∧ spec_l03Stamp.k M
def spec_DrawBox.b : C := .seq (.reg [⟨some 2, .alloc [.int .i64 0, .str ⟨#[]⟩, .int .i64 0, .int .i64 0, .int .i64 0, .nils 4, .nils 1], none⟩] [0, 2] [2, 10505, 10506])
  (.seq (.reg [⟨some 3, .mv (.t 0), none⟩,
    ⟨some 4, .call 124 [.t 3] [] [(0, 10400)], none⟩,
    ⟨some 5, .call 154 [.t 4] [0] [(5, 10505), (6, 10506)], none⟩,
    ⟨none, .store 7 (.t 2) (.t 5), none⟩] [2] [2, 10505, 10506])
  (.ret))
def spec_DrawBox.m : Fn := { np := 1, body := spec_DrawBox.b, res := [.cell 2 true 7] }
def spec_DrawBox.k (M : Nat → Option Body) : Prop := M 69 = some (.code spec_DrawBox.m) ∧ spec_l01New.k M ∧ spec_l06Box.k M
def spec_DrawPlaces.l0 : C := .seq (.seq (.reg [⟨some 11, .mv (.t 5), none⟩,
    ⟨some 12, .bin .lss (.t 11) (.k (.int .i64 12)), none⟩] [3, 4, 5, 12] [10, 19, 10700])
  (.cond (.t 12) (.skip) (.exit 0)))
  (.seq (.block 1 (.reg [⟨some 15, .mv (.t 4), none⟩,
    ⟨some 16, .mv (.t 3), none⟩,
    ⟨some 17, .call 125 [.t 16, .k (.int .i64 10000)] [0] [], none⟩,
    ⟨some 18, .bslice 1 1 [.int .i64 0] [(0, .t 17)], none⟩,
    ⟨some 19, .app 1 8 (.t 15) (.t 18), none⟩,
    ⟨some 4, .mv (.t 19), none⟩] [3, 4, 5] [10, 19, 10700]))
  (.reg [⟨some 13, .mv (.t 5), none⟩,
    ⟨some 14, .bin .add (.t 13) (.k (.int .i64 1)), none⟩,
    ⟨some 5, .mv (.t 14), none⟩] [3, 4, 5] [10, 19, 10700]))
def spec_DrawPlaces.b : C := .seq (.reg [⟨some 2, .nil 1, none⟩] [0] [])
  (.seq (.reg [⟨some 6, .mv (.t 0), none⟩,
    ⟨some 7, .call 124 [.t 6] [] [(0, 10700)], none⟩,
    ⟨some 3, .mv (.t 7), none⟩] [3] [10700])
  (.seq (.reg [⟨some 8, .mv (.t 3), none⟩,
    ⟨some 9, .call 131 [.t 8] [0] [], none⟩] [3] [10700])
  (.seq (.reg [⟨some 10, .bslice 1 0 [.int .i64 0] [], none⟩,
    ⟨some 4, .mv (.t 10), none⟩] [3, 4] [10, 19, 10700])
  (.seq (.seq (.reg [⟨some 5, .mv (.k (.int .i64 0)), none⟩] [3, 4, 5] [10, 19, 10700])
  (.block 0 (.loop spec_DrawPlaces.l0)))
  (.seq (.reg [⟨some 20, .mv (.t 4), none⟩,
    ⟨some 2, .mv (.t 20), none⟩] [2] [2, 10, 19])
  (.ret))))))
def spec_DrawPlaces.m : Fn := { np := 1, body := spec_DrawPlaces.b, res := [.tmp 2] }
def spec_DrawPlaces.k (M : Nat → Option Body) : Prop := M 40 = some (.code spec_DrawPlaces.m) ∧ spec_l01New.k M ∧ spec_l01Below.k M ∧ spec_l01Byte.k M
end Mx

/-
  Small codes: laws.big, laws.FnBoxes.
-/
namespace Mx
open Go
def laws_big.b : C := .seq (.reg [⟨some 2, .mv (.k (.bool false)), none⟩] [0] [])
  (.seq (.reg [⟨some 3, .mv (.t 0), none⟩,
    ⟨some 4, .len (.t 3), none⟩,
    ⟨some 5, .bin .gtr (.t 4) (.k (.int .i64 1048576)), none⟩,
    ⟨some 2, .mv (.t 5), none⟩] [2] [])
  (.ret))
def laws_big.m : Fn := { np := 1, body := laws_big.b, res := [.tmp 2] }
def laws_big.k (M : Nat → Option Body) : Prop := M 36 = some (.code laws_big.m)
def laws_FnBoxes.b : C := .seq (.reg [⟨some 2, .mv (.k (.bool false)), none⟩] [0] [])
  (.seq (.seq (.reg [⟨some 17, .mv (.t 0), none⟩,
    ⟨some 18, .call 36 [.t 17] [] [], none⟩] [0, 18] [])
  (.cond (.t 18) (.seq (.reg [⟨some 2, .mv (.k (.bool true)), none⟩] [2] [])
  (.ret)) (.skip)))
  (.seq (.reg [⟨some 19, .mv (.t 0), none⟩,
    ⟨some 20, .call 69 [.t 19] [] [], none⟩,
    ⟨some 3, .alloc [.int .i64 0, .str ⟨#[]⟩, .int .i64 0, .int .i64 0, .int .i64 0, .nils 4, .nils 1], none⟩,
    ⟨none, .store 7 (.t 3) (.t 20), none⟩] [0, 3] [3])
  (.seq (.reg [⟨some 21, .mv (.t 0), none⟩,
    ⟨some 22, .call 40 [.t 21] [] [], none⟩,
    ⟨some 4, .mv (.t 22), none⟩] [3, 4] [3])
  (.seq (.reg [⟨some 23, .build [.int .i64 0, .int .i64 0] [(0, 1, .k (.int .i64 60)), (1, 1, .k (.int .i64 1))], none⟩,
    ⟨some 5, .alloc [.int .i64 0, .int .i64 0], none⟩,
    ⟨none, .store 2 (.t 5) (.t 23), none⟩] [3, 4, 5] [3, 5])
  (.seq (.regd [⟨some 25, .load true 7 (.t 3), none⟩,
    ⟨some 26, .mv (.t 4), none⟩,
    ⟨some 27, .iaddr 1 (.t 26) (.k (.int .i64 0)), none⟩,
    ⟨some 28, .load false 1 (.t 27), none⟩,
    ⟨some 29, .bin .rem (.t 28) (.k (.int .i64 8)), none⟩,
    ⟨some 30, .load true 2 (.t 5), none⟩,
    ⟨some 31, .call 70 [.t 25, .k (.int .i64 77), .t 29, .k (.str ⟨#[110, 101, 119]⟩), .t 30] [] [], none⟩,
    ⟨some 24, .mv (.t 31), none⟩,
    ⟨some 32, .ext 0 (.t 24), none⟩,
    ⟨some 33, .ext 1 (.t 24), none⟩,
    ⟨some 6, .alloc [.int .i64 0, .str ⟨#[]⟩, .int .i64 0, .int .i64 0, .int .i64 0, .nils 4, .nils 1], none⟩,
    ⟨none, .store 7 (.t 6) (.t 32), none⟩,
    ⟨some 7, .mv (.t 33), none⟩] [[], [], [1], [1, 2], [1, 2, 3], [], List.range 6, List.range 7, List.range 8, List.range 8, [], List.range 9 ++ [10], List.range 12] [3, 5, 6, 7] [3, 5, 6])
  (.seq (.seq (.reg [⟨some 34, .mv (.t 7), none⟩,
    ⟨some 35, .faddr 5 (.t 3), none⟩,
    ⟨some 36, .load false 1 (.t 35), none⟩,
    ⟨some 37, .len (.t 36), none⟩,
    ⟨some 38, .bin .lss (.t 37) (.k (.int .i64 10)), none⟩,
    ⟨some 39, .beq true (.t 34) (.t 38), none⟩] [3, 5, 6, 7, 39] [3, 5, 6])
  (.cond (.t 39) (.seq (.reg [⟨some 2, .mv (.k (.bool false)), none⟩] [2] [])
  (.ret)) (.skip)))
  (.seq (.seq (.reg [⟨some 40, .mv (.t 7), none⟩,
    ⟨some 41, .not (.t 40), none⟩] [3, 5, 6, 41] [3, 5, 6])
  (.cond (.t 41) (.seq (.reg [⟨some 42, .load true 7 (.t 6), none⟩,
    ⟨some 43, .load true 7 (.t 3), none⟩,
    ⟨some 44, .call 71 [.t 42, .t 43] [] [], none⟩,
    ⟨some 2, .mv (.t 44), none⟩] [2] [])
  (.ret)) (.skip)))
  (.seq (.reg [⟨some 45, .load true 7 (.t 6), none⟩,
    ⟨some 46, .call 72 [.t 45, .k (.int .i64 77)] [] [], none⟩,
    ⟨some 8, .mv (.t 46), none⟩] [3, 5, 6, 8] [3, 5, 6])
  (.seq (.reg [⟨some 48, .load true 7 (.t 6), none⟩,
    ⟨some 49, .call 73 [.t 48, .k (.int .i64 77)] [] [], none⟩,
    ⟨some 47, .mv (.t 49), none⟩,
    ⟨some 50, .ext 0 (.t 47), none⟩,
    ⟨some 51, .ext 1 (.t 47), none⟩,
    ⟨some 9, .alloc [.int .i64 0, .str ⟨#[]⟩, .int .i64 0, .int .i64 0, .int .i64 0, .nils 4, .nils 1], none⟩,
    ⟨none, .store 7 (.t 9) (.t 50), none⟩,
    ⟨some 10, .mv (.t 51), none⟩] [3, 5, 6, 8, 9, 10] [3, 5, 6, 9])
  (.seq (.reg [⟨some 53, .load true 7 (.t 9), none⟩,
    ⟨some 54, .load true 2 (.t 5), none⟩,
    ⟨some 55, .call 70 [.t 53, .k (.int .i64 77), .k (.int .i64 0), .k (.str ⟨#[97, 103, 97, 105, 110]⟩), .t 54] [] [], none⟩,
    ⟨some 52, .mv (.t 55), none⟩,
    ⟨some 56, .ext 0 (.t 52), none⟩,
    ⟨some 57, .ext 1 (.t 52), none⟩,
    ⟨some 11, .alloc [.int .i64 0, .str ⟨#[]⟩, .int .i64 0, .int .i64 0, .int .i64 0, .nils 4, .nils 1], none⟩,
    ⟨none, .store 7 (.t 11) (.t 56), none⟩,
    ⟨some 12, .mv (.t 57), none⟩] [3, 5, 6, 8, 9, 10, 11, 12] [3, 5, 6, 9, 11])
  (.seq (.reg [⟨some 59, .load true 7 (.t 9), none⟩,
    ⟨some 60, .load true 2 (.t 5), none⟩,
    ⟨some 61, .call 70 [.t 59, .k (.int .i64 78), .k (.int .i64 0), .k (.str ⟨#[109, 111, 114, 101]⟩), .t 60] [] [], none⟩,
    ⟨some 58, .mv (.t 61), none⟩,
    ⟨some 62, .ext 0 (.t 58), none⟩,
    ⟨some 63, .ext 1 (.t 58), none⟩,
    ⟨some 13, .alloc [.int .i64 0, .str ⟨#[]⟩, .int .i64 0, .int .i64 0, .int .i64 0, .nils 4, .nils 1], none⟩,
    ⟨none, .store 7 (.t 13) (.t 62), none⟩,
    ⟨some 14, .mv (.t 63), none⟩] [3, 5, 6, 8, 9, 10, 11, 12, 13, 14] [3, 5, 6, 9, 11, 13])
  (.seq (.reg [⟨some 65, .load true 7 (.t 6), none⟩,
    ⟨some 66, .load true 2 (.t 5), none⟩,
    ⟨some 67, .call 70 [.t 65, .k (.int .i64 77), .k (.int .i64 0), .k (.str ⟨#[116, 119, 105, 99, 101]⟩), .t 66] [] [], none⟩,
    ⟨some 64, .mv (.t 67), none⟩,
    ⟨some 68, .ext 0 (.t 64), none⟩,
    ⟨some 69, .ext 1 (.t 64), none⟩,
    ⟨some 15, .alloc [.int .i64 0, .str ⟨#[]⟩, .int .i64 0, .int .i64 0, .int .i64 0, .nils 4, .nils 1], none⟩,
    ⟨none, .store 7 (.t 15) (.t 68), none⟩,
    ⟨some 16, .mv (.t 69), none⟩] [3, 6, 8, 9, 10, 11, 12, 13, 14, 16] [3, 6, 9, 11, 13])
  (.seq (.regd [⟨some 70, .mv (.t 8), none⟩,
    ⟨some 71, .faddr 5 (.t 3), none⟩,
    ⟨some 72, .load false 1 (.t 71), none⟩,
    ⟨some 73, .len (.t 72), none⟩,
    ⟨some 74, .bin .eql (.t 70) (.t 73), none⟩,
    ⟨some 75, .mv (.t 74), none⟩,
    ⟨some 76, .faddr 5 (.t 6), some (75, true)⟩,
    ⟨some 77, .load false 1 (.t 76), some (75, true)⟩,
    ⟨some 78, .mv (.t 8), some (75, true)⟩,
    ⟨some 79, .iaddr 4 (.t 77) (.t 78), some (75, true)⟩,
    ⟨some 80, .faddr 1 (.t 79), some (75, true)⟩,
    ⟨some 81, .load false 1 (.t 80), some (75, true)⟩,
    ⟨some 82, .faddr 4 (.t 3), some (75, true)⟩,
    ⟨some 83, .load false 1 (.t 82), some (75, true)⟩,
    ⟨some 84, .bin .eql (.t 81) (.t 83), some (75, true)⟩,
    ⟨some 85, .pick (.t 75) (.t 84) (.k (.bool false)), none⟩,
    ⟨some 86, .mv (.t 85), none⟩,
    ⟨some 87, .faddr 4 (.t 6), some (86, true)⟩,
    ⟨some 88, .load false 1 (.t 87), some (86, true)⟩,
    ⟨some 89, .faddr 4 (.t 3), some (86, true)⟩,
    ⟨some 90, .load false 1 (.t 89), some (86, true)⟩,
    ⟨some 91, .bin .add (.t 90) (.k (.int .i64 1)), some (86, true)⟩,
    ⟨some 92, .bin .eql (.t 88) (.t 91), some (86, true)⟩,
    ⟨some 93, .pick (.t 86) (.t 92) (.k (.bool false)), none⟩,
    ⟨some 94, .mv (.t 93), none⟩,
    ⟨some 95, .mv (.t 10), some (94, true)⟩,
    ⟨some 96, .pick (.t 94) (.t 95) (.k (.bool false)), none⟩,
    ⟨some 97, .mv (.t 96), none⟩,
    ⟨some 98, .load true 7 (.t 9), some (97, true)⟩,
    ⟨some 99, .call 72 [.t 98, .k (.int .i64 77)] [] [], some (97, true)⟩,
    ⟨some 100, .bin .eql (.t 99) (.k (.int .i64 (-1))), some (97, true)⟩,
    ⟨some 101, .pick (.t 97) (.t 100) (.k (.bool false)), none⟩,
    ⟨some 102, .mv (.t 101), none⟩,
    ⟨some 103, .mv (.t 12), some (102, true)⟩,
    ⟨some 104, .not (.t 103), some (102, true)⟩,
    ⟨some 105, .pick (.t 102) (.t 104) (.k (.bool false)), none⟩,
    ⟨some 106, .mv (.t 105), none⟩,
    ⟨some 107, .load true 7 (.t 11), some (106, true)⟩,
    ⟨some 108, .load true 7 (.t 9), some (106, true)⟩,
    ⟨some 109, .call 71 [.t 107, .t 108] [] [], some (106, true)⟩,
    ⟨some 110, .pick (.t 106) (.t 109) (.k (.bool false)), none⟩,
    ⟨some 111, .mv (.t 110), none⟩,
    ⟨some 112, .mv (.t 14), some (111, true)⟩,
    ⟨some 113, .pick (.t 111) (.t 112) (.k (.bool false)), none⟩,
    ⟨some 114, .mv (.t 113), none⟩,
    ⟨some 115, .faddr 5 (.t 13), some (114, true)⟩,
    ⟨some 116, .load false 1 (.t 115), some (114, true)⟩,
    ⟨some 117, .faddr 5 (.t 13), some (114, true)⟩,
    ⟨some 118, .load false 1 (.t 117), some (114, true)⟩,
    ⟨some 119, .len (.t 118), some (114, true)⟩,
    ⟨some 120, .bin .sub (.t 119) (.k (.int .i64 1)), some (114, true)⟩,
    ⟨some 121, .iaddr 4 (.t 116) (.t 120), some (114, true)⟩,
    ⟨some 122, .faddr 1 (.t 121), some (114, true)⟩,
    ⟨some 123, .load false 1 (.t 122), some (114, true)⟩,
    ⟨some 124, .faddr 4 (.t 3), some (114, true)⟩,
    ⟨some 125, .load false 1 (.t 124), some (114, true)⟩,
    ⟨some 126, .bin .add (.t 125) (.k (.int .i64 1)), some (114, true)⟩,
    ⟨some 127, .bin .eql (.t 123) (.t 126), some (114, true)⟩,
    ⟨some 128, .pick (.t 114) (.t 127) (.k (.bool false)), none⟩,
    ⟨some 129, .mv (.t 128), none⟩,
    ⟨some 130, .mv (.t 16), some (129, true)⟩,
    ⟨some 131, .not (.t 130), some (129, true)⟩,
    ⟨some 132, .pick (.t 129) (.t 131) (.k (.bool false)), none⟩,
    ⟨some 133, .mv (.t 132), none⟩,
    ⟨some 134, .load true 7 (.t 6), some (133, true)⟩,
    ⟨some 135, .call 74 [.t 134] [] [], some (133, true)⟩,
    ⟨some 136, .pick (.t 133) (.t 135) (.k (.bool false)), none⟩,
    ⟨some 137, .mv (.t 136), none⟩,
    ⟨some 138, .load true 7 (.t 9), some (137, true)⟩,
    ⟨some 139, .call 74 [.t 138] [] [], some (137, true)⟩,
    ⟨some 140, .pick (.t 137) (.t 139) (.k (.bool false)), none⟩,
    ⟨some 2, .mv (.t 140), none⟩] [[], [], [1], [1, 2], List.range 4, List.range 5, List.range 6, List.range 7, List.range 6, List.range 9, List.range 10, List.range 11, List.range 6, List.range 6 ++ [12], List.range 14, List.range 15, List.range 16, List.range 17, List.range 18, List.range 17, List.range 17 ++ [19], List.range 17 ++ [19, 20], List.range 22, List.range 23, List.range 24, List.range 25, List.range 26, List.range 27, List.range 28, List.range 29, List.range 30, List.range 31, List.range 32, List.range 33, List.range 34, List.range 35, List.range 36, List.range 37, List.range 37, List.range 39, List.range 40, List.range 41, List.range 42, List.range 43, List.range 44, List.range 45, List.range 46, List.range 45, List.range 45 ++ [47], List.range 45 ++ [47, 48], List.range 45 ++ [47, 48, 49], List.range 51, List.range 52, List.range 53, List.range 45, List.range 45 ++ [54], List.range 45 ++ [54, 55], List.range 57, List.range 58, List.range 59, List.range 60, List.range 61, List.range 62, List.range 63, List.range 64, List.range 65, List.range 66, List.range 67, List.range 68, List.range 69, List.range 70, List.range 71] [2] [])
  (.ret))))))))))))))
def laws_FnBoxes.m : Fn := { np := 1, body := laws_FnBoxes.b, res := [.tmp 2] }
def laws_FnBoxes.k (M : Nat → Option Body) : Prop := M 390 = some (.code laws_FnBoxes.m) ∧ laws_big.k M ∧ spec_DrawPlaces.k M ∧ spec_DrawBox.k M ∧ impl_AddMail.k M ∧ laws_sameBox.k M ∧ impl_MailAt.k M ∧ impl_TakeOut.k M ∧ impl_BoxOk.k M
end Mx

/-
  Small codes: spec.l01PickInt, spec.l01Once, spec.l01Long, spec.l03Any, spec.l03Reg, spec.l04Flags, spec.l04Any, spec.l05Mail, spec.l05Any, spec.l06Any, spec.l06Pair, spec.DrawBoxOk, spec.DrawAddMail, spec.DrawFlagMail, spec.DrawTakeOut, spec.DrawNameOk, laws.FnBoxesTold.
-/
namespace Mx
open Go
def spec_l01PickInt.b : C := .seq (.reg [⟨some 4, .mv (.k (.int .i64 0)), none⟩] [0, 1] [0])
  (.seq (.reg [⟨some 5, .mv (.t 1), none⟩,
    ⟨some 6, .mv (.t 0), none⟩,
    ⟨some 7, .mv (.t 1), none⟩,
    ⟨some 8, .len (.t 7), none⟩,
    ⟨some 9, .call 125 [.t 6, .t 8] [0] [], none⟩,
    ⟨some 10, .iaddr 1 (.t 5) (.t 9), none⟩,
    ⟨some 11, .load false 1 (.t 10), none⟩,
    ⟨some 4, .mv (.t 11), none⟩] [4] [0])
  (.ret))
def spec_l01PickInt.m : Fn := { np := 2, body := spec_l01PickInt.b, res := [.tmp 4] }
def spec_l01PickInt.k (M : Nat → Option Body) : Prop := M 179 = some (.code spec_l01PickInt.m) ∧ spec_l01Below.k M
def spec_l01Once.b : C := .seq (.reg [⟨some 4, .mv (.k (.bool false)), none⟩] [0, 1] [0])
  (.seq (.reg [⟨some 5, .mv (.t 0), none⟩,
    ⟨some 6, .mv (.t 1), none⟩,
    ⟨some 7, .call 125 [.t 5, .t 6] [0] [], none⟩,
    ⟨some 8, .bin .eql (.t 7) (.k (.int .i64 0)), none⟩,
    ⟨some 4, .mv (.t 8), none⟩] [4] [0])
  (.ret))
def spec_l01Once.m : Fn := { np := 2, body := spec_l01Once.b, res := [.tmp 4] }
def spec_l01Once.k (M : Nat → Option Body) : Prop := M 175 = some (.code spec_l01Once.m) ∧ spec_l01Below.k M
def spec_l01Long.l0 : C := .seq (.seq (.reg [⟨some 9, .mv (.t 6), none⟩,
    ⟨some 10, .mv (.t 0), none⟩,
    ⟨some 11, .bin .lss (.t 9) (.t 10), none⟩] [0, 1, 5, 6, 11] [8])
  (.cond (.t 11) (.skip) (.exit 0)))
  (.seq (.block 1 (.reg [⟨some 14, .mv (.t 5), none⟩,
    ⟨some 15, .mv (.t 6), none⟩,
    ⟨some 16, .mv (.t 1), none⟩,
    ⟨some 17, .iaddr 1 (.t 14) (.t 15), none⟩,
    ⟨none, .store 1 (.t 17) (.t 16), none⟩] [0, 1, 5, 6] [8]))
  (.reg [⟨some 12, .mv (.t 6), none⟩,
    ⟨some 13, .bin .add (.t 12) (.k (.int .i64 1)), none⟩,
    ⟨some 6, .mv (.t 13), none⟩] [0, 1, 5, 6] [8]))
def spec_l01Long.b : C := .seq (.reg [⟨some 4, .mv (.k (.str ⟨#[]⟩)), none⟩] [0, 1] [])
  (.seq (.reg [⟨some 7, .mv (.t 0), none⟩,
    ⟨some 8, .mks 1 1 [.int .u8 0] (.t 7), none⟩,
    ⟨some 5, .mv (.t 8), none⟩] [0, 1, 5] [8])
  (.seq (.seq (.reg [⟨some 6, .mv (.k (.int .i64 0)), none⟩] [0, 1, 5, 6] [8])
  (.block 0 (.loop spec_l01Long.l0)))
  (.seq (.reg [⟨some 18, .mv (.t 5), none⟩,
    ⟨some 19, .b2s (.t 18), none⟩,
    ⟨some 4, .mv (.t 19), none⟩] [4] [])
  (.ret))))
def spec_l01Long.m : Fn := { np := 2, body := spec_l01Long.b, res := [.tmp 4] }
def spec_l01Long.k (M : Nat → Option Body) : Prop := M 176 = some (.code spec_l01Long.m)
def spec_l03Any.b : C := .seq (.reg [⟨some 2, .alloc [.int .i64 0, .int .i64 0], none⟩] [0, 2] [0, 2])
  (.seq (.reg [⟨some 4, .mv (.t 0), none⟩,
    ⟨some 5, .call 232 [.t 4] [0] [], none⟩,
    ⟨some 3, .alloc [.int .i64 0, .int .i64 0], none⟩,
    ⟨none, .store 2 (.t 3) (.t 5), none⟩] [0, 2, 3] [0, 2, 3])
  (.seq (.seq (.reg [⟨some 6, .mv (.t 0), none⟩,
    ⟨some 7, .call 125 [.t 6, .k (.int .i64 8)] [0] [], none⟩] [0, 2, 3, 7] [0, 2, 3])
  (.block 0 (.seq (.reg [⟨some 9, .bin .eql (.t 7) (.k (.int .i64 0)), none⟩,
    ⟨some 8, .mv (.t 9), none⟩] [0, 2, 3, 7, 8] [0, 2, 3])
  (.cond (.t 8) (.reg [⟨some 10, .mv (.t 0), none⟩,
    ⟨some 11, .bslf 1 3 [.int .i64 0] [(0, .k (.int .i64 (-1))), (1, .k (.int .i64 100000)), (2, .k (.int .i64 100001))], none⟩,
    ⟨some 12, .call 179 [.t 10, .t 11] [0] [], none⟩,
    ⟨some 13, .faddr 0 (.t 3), none⟩,
    ⟨none, .store 1 (.t 13) (.t 12), none⟩] [2, 3] [0, 2, 3]) (.seq (.reg [⟨some 15, .bin .eql (.t 7) (.k (.int .i64 1)), none⟩,
    ⟨some 14, .mv (.t 15), none⟩] [0, 2, 3, 14] [0, 2, 3])
  (.cond (.t 14) (.reg [⟨some 16, .mv (.t 0), none⟩,
    ⟨some 17, .bslf 1 3 [.int .i64 0] [(0, .k (.int .i64 (-1))), (1, .k (.int .i64 0)), (2, .k (.int .i64 3))], none⟩,
    ⟨some 18, .call 179 [.t 16, .t 17] [0] [], none⟩,
    ⟨some 19, .faddr 1 (.t 3), none⟩,
    ⟨none, .store 1 (.t 19) (.t 18), none⟩] [2, 3] [0, 2, 3]) (.skip)))))))
  (.seq (.reg [⟨some 20, .load true 2 (.t 3), none⟩,
    ⟨none, .store 2 (.t 2) (.t 20), none⟩] [2] [0, 2])
  (.ret))))
def spec_l03Any.m : Fn := { np := 1, body := spec_l03Any.b, res := [.cell 2 true 2] }
def spec_l03Any.k (M : Nat → Option Body) : Prop := M 177 = some (.code spec_l03Any.m) ∧ spec_l01Below.k M ∧ spec_l01PickInt.k M ∧ spec_l03Stamp.k M
def spec_l03Reg.b : C := .seq (.reg [⟨some 2, .alloc [.int .i64 0, .int .i64 0, .int .i64 0], none⟩] [0, 2] [0, 2])
  (.seq (.reg [⟨some 4, .mv (.t 0), none⟩,
    ⟨some 5, .call 177 [.t 4] [0] [], none⟩,
    ⟨some 3, .alloc [.int .i64 0, .int .i64 0], none⟩,
    ⟨none, .store 2 (.t 3) (.t 5), none⟩] [0, 2, 3] [0, 2, 3])
  (.seq (.regd [⟨some 6, .mv (.t 0), none⟩,
    ⟨some 7, .bslf 1 6 [.int .i64 0] [(0, .k (.int .i64 0)), (1, .k (.int .i64 1)), (2, .k (.int .i64 1)), (3, .k (.int .i64 7)), (4, .k (.int .i64 (-1))), (5, .k (.int .i64 1000000001))], none⟩,
    ⟨some 8, .call 179 [.t 6, .t 7] [0] [], none⟩,
    ⟨some 9, .load true 2 (.t 3), none⟩,
    ⟨some 10, .build [.int .i64 0, .int .i64 0, .int .i64 0] [(0, 1, .t 8), (1, 2, .t 9)], none⟩,
    ⟨none, .store 3 (.t 2) (.t 10), none⟩] [[], [], [0, 1], [], List.range 4, List.range 5] [2] [0, 2])
  (.ret)))
def spec_l03Reg.m : Fn := { np := 1, body := spec_l03Reg.b, res := [.cell 2 true 3] }
def spec_l03Reg.k (M : Nat → Option Body) : Prop := M 299 = some (.code spec_l03Reg.m) ∧ spec_l03Any.k M ∧ spec_l01PickInt.k M
def spec_l04Flags.l0 : C := .seq (.seq (.reg [⟨some 7, .mv (.t 4), none⟩,
    ⟨some 8, .bin .lss (.t 7) (.k (.int .i64 3)), none⟩] [0, 3, 4, 8] [0, 6, 19])
  (.cond (.t 8) (.skip) (.exit 0)))
  (.seq (.block 1 (.seq (.reg [⟨some 11, .mv (.t 0), none⟩,
    ⟨some 12, .call 232 [.t 11] [0] [], none⟩,
    ⟨some 5, .alloc [.int .i64 0, .int .i64 0], none⟩,
    ⟨none, .store 2 (.t 5) (.t 12), none⟩] [0, 3, 4, 5] [0, 5, 6, 19])
  (.regd [⟨some 13, .mv (.t 3), none⟩,
    ⟨some 14, .mv (.t 0), none⟩,
    ⟨some 15, .call 125 [.t 14, .k (.int .i64 2)] [0] [], none⟩,
    ⟨some 16, .load true 2 (.t 5), none⟩,
    ⟨some 17, .build [.int .i64 0, .int .i64 0, .int .i64 0] [(0, 1, .t 15), (1, 2, .t 16)], none⟩,
    ⟨some 18, .bslice 3 1 [.int .i64 0, .int .i64 0, .int .i64 0] [(0, .t 17)], none⟩,
    ⟨some 19, .app 3 24 (.t 13) (.t 18), none⟩,
    ⟨some 3, .mv (.t 19), none⟩] [[], [], [1], [], [1, 2, 3], [1, 2, 3, 4], List.range 6, List.range 7] [0, 3, 4] [0, 6, 19])))
  (.reg [⟨some 9, .mv (.t 4), none⟩,
    ⟨some 10, .bin .add (.t 9) (.k (.int .i64 1)), none⟩,
    ⟨some 4, .mv (.t 10), none⟩] [0, 3, 4] [0, 6, 19]))
def spec_l04Flags.b : C := .seq (.reg [⟨some 2, .nil 3, none⟩] [0] [0])
  (.seq (.reg [⟨some 6, .bslice 3 0 [.int .i64 0, .int .i64 0, .int .i64 0] [], none⟩,
    ⟨some 3, .mv (.t 6), none⟩] [0, 3] [0, 6, 19])
  (.seq (.seq (.reg [⟨some 4, .mv (.k (.int .i64 0)), none⟩] [0, 3, 4] [0, 6, 19])
  (.block 0 (.loop spec_l04Flags.l0)))
  (.seq (.reg [⟨some 20, .mv (.t 3), none⟩,
    ⟨some 2, .mv (.t 20), none⟩] [2] [0, 2, 6, 19])
  (.ret))))
def spec_l04Flags.m : Fn := { np := 1, body := spec_l04Flags.b, res := [.tmp 2] }
def spec_l04Flags.k (M : Nat → Option Body) : Prop := M 298 = some (.code spec_l04Flags.m) ∧ spec_l01Below.k M ∧ spec_l03Stamp.k M
def spec_l04Any.b : C := .seq (.reg [⟨some 2, .nil 3, none⟩] [0] [0])
  (.seq (.reg [⟨some 5, .mv (.t 0), none⟩,
    ⟨some 6, .call 125 [.t 5, .k (.int .i64 10)] [0] [], none⟩,
    ⟨some 3, .mv (.t 6), none⟩] [0, 3] [0])
  (.seq (.reg [⟨some 7, .mv (.t 0), none⟩,
    ⟨some 8, .call 298 [.t 7] [0] [(0, 10800)], none⟩,
    ⟨some 4, .mv (.t 8), none⟩] [0, 3, 4] [0, 15, 10800])
  (.seq (.seq (.reg [⟨some 9, .mv (.t 3), none⟩] [0, 4, 9] [0, 15, 10800])
  (.block 0 (.seq (.reg [⟨some 11, .bin .eql (.t 9) (.k (.int .i64 0)), none⟩,
    ⟨some 10, .mv (.t 11), none⟩] [0, 4, 9, 10] [0, 15, 10800])
  (.cond (.t 10) (.reg [⟨some 12, .mv (.t 4), none⟩,
    ⟨some 13, .build [.int .i64 0, .int .i64 0, .int .i64 0] [], none⟩,
    ⟨some 14, .bslice 3 1 [.int .i64 0, .int .i64 0, .int .i64 0] [(0, .t 13)], none⟩,
    ⟨some 15, .app 3 24 (.t 12) (.t 14), none⟩,
    ⟨some 4, .mv (.t 15), none⟩] [4] [0, 15, 10800]) (.seq (.reg [⟨some 17, .bin .eql (.t 9) (.k (.int .i64 1)), none⟩,
    ⟨some 16, .mv (.t 17), none⟩] [0, 4, 9, 16] [0, 15, 10800])
  (.cond (.t 16) (.reg [⟨some 18, .mv (.t 4), none⟩,
    ⟨some 19, .slc 3 (.t 18) (some (.k (.int .i64 1))) none none, none⟩,
    ⟨some 4, .mv (.t 19), none⟩] [4] [0, 15, 10800]) (.seq (.reg [⟨some 21, .bin .eql (.t 9) (.k (.int .i64 2)), none⟩,
    ⟨some 20, .mv (.t 21), none⟩] [0, 4, 20] [0, 15, 10800])
  (.cond (.t 20) (.reg [⟨some 22, .mv (.t 4), none⟩,
    ⟨some 23, .mv (.t 0), none⟩,
    ⟨some 24, .call 125 [.t 23, .k (.int .i64 3)] [0] [], none⟩,
    ⟨some 25, .mv (.t 0), none⟩,
    ⟨some 26, .call 299 [.t 25] [0] [], none⟩,
    ⟨some 27, .iaddr 3 (.t 22) (.t 24), none⟩,
    ⟨none, .store 3 (.t 27) (.t 26), none⟩] [4] [0, 15, 10800]) (.skip)))))))))
  (.seq (.shut [15, 10800] (.reg [⟨some 28, .mv (.t 4), none⟩,
    ⟨some 2, .mv (.t 28), none⟩] [2] [0, 2, 15, 10800]))
  (.ret)))))
def spec_l04Any.m : Fn := { np := 1, body := spec_l04Any.b, res := [.tmp 2] }
def spec_l04Any.k (M : Nat → Option Body) : Prop := M 274 = some (.code spec_l04Any.m) ∧ spec_l01Below.k M ∧ spec_l04Flags.k M ∧ spec_l03Reg.k M
def spec_l05Mail.b : C := .seq (.reg [⟨some 2, .alloc [.int .i64 0, .int .i64 0, .nils 3, .str ⟨#[]⟩], none⟩] [0, 2] [0, 2, 11300])
  (.seq (.reg [⟨some 6, .mv (.t 0), none⟩,
    ⟨some 7, .call 125 [.t 6, .k (.int .i64 6)] [0] [], none⟩,
    ⟨some 8, .bin .add (.k (.int .i64 1)) (.t 7), none⟩,
    ⟨some 3, .mv (.t 8), none⟩] [0, 2, 3] [0, 2, 11300])
  (.seq (.reg [⟨some 9, .mv (.t 0), none⟩,
    ⟨some 10, .call 125 [.t 9, .k (.int .i64 6)] [0] [], none⟩,
    ⟨some 11, .bin .add (.k (.int .i64 1)) (.t 10), none⟩,
    ⟨some 4, .mv (.t 11), none⟩] [0, 2, 3, 4] [0, 2, 11300])
  (.seq (.reg [⟨some 12, .mv (.t 0), none⟩,
    ⟨some 13, .call 298 [.t 12] [0] [(0, 11300)], none⟩,
    ⟨some 5, .mv (.t 13), none⟩] [0, 2, 3, 4, 5] [0, 2, 11300])
  (.seq (.reg [⟨some 14, .mv (.t 3), none⟩,
    ⟨some 15, .mv (.t 4), none⟩,
    ⟨some 16, .mv (.t 5), none⟩,
    ⟨some 17, .mv (.t 0), none⟩,
    ⟨some 18, .call 174 [.t 17] [0] [], none⟩,
    ⟨some 19, .build [.int .i64 0, .int .i64 0, .nils 3, .str ⟨#[]⟩] [(0, 1, .t 14), (1, 1, .t 15), (2, 1, .t 16), (3, 1, .t 18)], none⟩,
    ⟨none, .store 4 (.t 2) (.t 19), none⟩] [2] [0, 2, 11300])
  (.ret)))))
def spec_l05Mail.m : Fn := { np := 1, body := spec_l05Mail.b, res := [.cell 2 true 4] }
def spec_l05Mail.k (M : Nat → Option Body) : Prop := M 273 = some (.code spec_l05Mail.m) ∧ spec_l01Below.k M ∧ spec_l05Text.k M ∧ spec_l04Flags.k M
def spec_l05Any.b : C := .seq (.reg [⟨some 2, .alloc [.int .i64 0, .int .i64 0, .nils 3, .str ⟨#[]⟩], none⟩] [0, 2] [0, 2, 11102, 13200])
  (.seq (.reg [⟨some 6, .mv (.t 0), none⟩,
    ⟨some 7, .call 125 [.t 6, .k (.int .i64 10)] [0] [], none⟩,
    ⟨some 3, .mv (.t 7), none⟩] [0, 2, 3] [0, 2, 11102, 13200])
  (.seq (.reg [⟨some 8, .mv (.t 0), none⟩,
    ⟨some 9, .call 125 [.t 8, .k (.int .i64 60)] [0] [], none⟩,
    ⟨some 4, .mv (.t 9), none⟩] [0, 2, 3, 4] [0, 2, 11102, 13200])
  (.seq (.reg [⟨some 10, .mv (.t 0), none⟩,
    ⟨some 11, .call 273 [.t 10] [0] [], none⟩,
    ⟨some 5, .alloc [.int .i64 0, .int .i64 0, .nils 3, .str ⟨#[]⟩], none⟩,
    ⟨none, .store 4 (.t 5) (.t 11), none⟩] [0, 2, 3, 4, 5] [0, 2, 5, 11102, 13200])
  (.seq (.seq (.reg [⟨some 12, .mv (.t 3), none⟩] [0, 2, 4, 5, 12] [0, 2, 5, 11102, 13200])
  (.block 0 (.seq (.reg [⟨some 14, .bin .eql (.t 12) (.k (.int .i64 0)), none⟩,
    ⟨some 13, .mv (.t 14), none⟩] [0, 2, 4, 5, 12, 13] [0, 2, 5, 11102, 13200])
  (.cond (.t 13) (.reg [⟨some 15, .bslice 1 4 [.int .i64 0] [(0, .k (.int .i64 0)), (1, .k (.int .i64 9999)), (2, .k (.int .i64 10000)), (3, .k (.int .i64 (-1)))], none⟩,
    ⟨some 16, .mv (.t 4), none⟩,
    ⟨some 17, .bin .rem (.t 16) (.k (.int .i64 4)), none⟩,
    ⟨some 18, .iaddr 1 (.t 15) (.t 17), none⟩,
    ⟨some 19, .load false 1 (.t 18), none⟩,
    ⟨some 20, .faddr 0 (.t 5), none⟩,
    ⟨none, .store 1 (.t 20) (.t 19), none⟩] [2, 5] [0, 2, 5, 11102, 13200]) (.seq (.reg [⟨some 22, .bin .eql (.t 12) (.k (.int .i64 1)), none⟩,
    ⟨some 21, .mv (.t 22), none⟩] [0, 2, 4, 5, 12, 21] [0, 2, 5, 11102, 13200])
  (.cond (.t 21) (.reg [⟨some 23, .bslice 1 3 [.int .i64 0] [(0, .k (.int .i64 0)), (1, .k (.int .i64 9999)), (2, .k (.int .i64 10000))], none⟩,
    ⟨some 24, .mv (.t 4), none⟩,
    ⟨some 25, .bin .rem (.t 24) (.k (.int .i64 3)), none⟩,
    ⟨some 26, .iaddr 1 (.t 23) (.t 25), none⟩,
    ⟨some 27, .load false 1 (.t 26), none⟩,
    ⟨some 28, .faddr 1 (.t 5), none⟩,
    ⟨none, .store 1 (.t 28) (.t 27), none⟩] [2, 5] [0, 2, 5, 11102, 13200]) (.seq (.reg [⟨some 30, .bin .eql (.t 12) (.k (.int .i64 2)), none⟩,
    ⟨some 29, .mv (.t 30), none⟩] [0, 2, 4, 5, 12, 29] [0, 2, 5, 11102, 13200])
  (.cond (.t 29) (.reg [⟨some 31, .mv (.t 0), none⟩,
    ⟨some 32, .call 274 [.t 31] [0] [], none⟩,
    ⟨some 33, .faddr 2 (.t 5), none⟩,
    ⟨none, .store 1 (.t 33) (.t 32), none⟩] [2, 5] [0, 2, 5, 11102, 13200]) (.seq (.reg [⟨some 35, .bin .eql (.t 12) (.k (.int .i64 3)), none⟩,
    ⟨some 34, .mv (.t 35), none⟩] [2, 4, 5, 34] [0, 2, 5, 11102, 13200])
  (.cond (.t 34) (.reg [⟨some 36, .mv (.t 4), none⟩,
    ⟨some 37, .bin .rem (.t 36) (.k (.int .i64 2)), none⟩,
    ⟨some 38, .bin .add (.k (.int .i64 60)) (.t 37), none⟩,
    ⟨some 39, .call 176 [.t 38, .k (.int .u8 97)] [] [], none⟩,
    ⟨some 40, .faddr 3 (.t 5), none⟩,
    ⟨none, .store 1 (.t 40) (.t 39), none⟩] [2, 5] [0, 2, 5, 11102, 13200]) (.skip)))))))))))
  (.seq (.reg [⟨some 41, .load true 4 (.t 5), none⟩,
    ⟨none, .store 4 (.t 2) (.t 41), none⟩] [2] [0, 2, 11102, 13200])
  (.ret))))))
def spec_l05Any.m : Fn := { np := 1, body := spec_l05Any.b, res := [.cell 2 true 4] }
def spec_l05Any.k (M : Nat → Option Body) : Prop := M 237 = some (.code spec_l05Any.m) ∧ spec_l01Below.k M ∧ spec_l01Long.k M ∧ spec_l05Mail.k M ∧ spec_l04Any.k M
def spec_l06Any.b : C := .seq (.reg [⟨some 2, .alloc [.int .i64 0, .str ⟨#[]⟩, .int .i64 0, .int .i64 0, .int .i64 0, .nils 4, .nils 1], none⟩] [0, 2] [0, 2, 39, 47, 11205, 11206])
  (.seq (.reg [⟨some 6, .mv (.t 0), none⟩,
    ⟨some 7, .call 125 [.t 6, .k (.int .i64 14)] [0] [], none⟩,
    ⟨some 3, .mv (.t 7), none⟩] [0, 2, 3] [0, 2, 39, 47, 11205, 11206])
  (.seq (.reg [⟨some 8, .mv (.t 0), none⟩,
    ⟨some 9, .call 125 [.t 8, .k (.int .i64 60)] [0] [], none⟩,
    ⟨some 4, .mv (.t 9), none⟩] [0, 2, 3, 4] [0, 2, 39, 47, 11205, 11206])
  (.seq (.reg [⟨some 10, .mv (.t 0), none⟩,
    ⟨some 11, .call 154 [.t 10] [0] [], none⟩,
    ⟨some 12, .call 180 [.t 11] [] [(5, 11205), (6, 11206)], none⟩,
    ⟨some 5, .alloc [.int .i64 0, .str ⟨#[]⟩, .int .i64 0, .int .i64 0, .int .i64 0, .nils 4, .nils 1], none⟩,
    ⟨none, .store 7 (.t 5) (.t 12), none⟩] [0, 2, 3, 4, 5] [0, 2, 5, 39, 47, 11205, 11206])
  (.seq (.seq (.reg [⟨some 13, .mv (.t 3), none⟩] [0, 2, 4, 5, 13] [0, 2, 5, 39, 47, 11205, 11206])
  (.block 0 (.seq (.reg [⟨some 15, .bin .eql (.t 13) (.k (.int .i64 0)), none⟩,
    ⟨some 14, .mv (.t 15), none⟩] [0, 2, 4, 5, 13, 14] [0, 2, 5, 39, 47, 11205, 11206])
  (.cond (.t 14) (.reg [⟨some 16, .mv (.t 4), none⟩,
    ⟨some 17, .bin .rem (.t 16) (.k (.int .i64 3)), none⟩,
    ⟨some 18, .faddr 0 (.t 5), none⟩,
    ⟨none, .store 1 (.t 18) (.t 17), none⟩] [2, 5] [0, 2, 5, 39, 47, 11205, 11206]) (.seq (.reg [⟨some 20, .bin .eql (.t 13) (.k (.int .i64 1)), none⟩,
    ⟨some 19, .mv (.t 20), none⟩] [0, 2, 4, 5, 13, 19] [0, 2, 5, 39, 47, 11205, 11206])
  (.cond (.t 19) (.reg [⟨some 21, .bslice 1 3 [.str ⟨#[]⟩] [(0, .k (.str ⟨#[]⟩)), (1, .k (.str ⟨#[65]⟩)), (2, .k (.str ⟨#[116, 104, 105, 114, 116, 101, 101, 110, 115, 105, 103, 110, 115]⟩))], none⟩,
    ⟨some 22, .mv (.t 4), none⟩,
    ⟨some 23, .bin .rem (.t 22) (.k (.int .i64 3)), none⟩,
    ⟨some 24, .iaddr 1 (.t 21) (.t 23), none⟩,
    ⟨some 25, .load false 1 (.t 24), none⟩,
    ⟨some 26, .faddr 1 (.t 5), none⟩,
    ⟨none, .store 1 (.t 26) (.t 25), none⟩] [2, 5] [0, 2, 5, 39, 47, 11205, 11206]) (.seq (.reg [⟨some 28, .bin .eql (.t 13) (.k (.int .i64 2)), none⟩,
    ⟨some 27, .mv (.t 28), none⟩] [0, 2, 4, 5, 13, 27] [0, 2, 5, 39, 47, 11205, 11206])
  (.cond (.t 27) (.reg [⟨some 29, .mv (.t 4), none⟩,
    ⟨some 30, .bin .rem (.t 29) (.k (.int .i64 5)), none⟩,
    ⟨some 31, .faddr 4 (.t 5), none⟩,
    ⟨none, .store 1 (.t 31) (.t 30), none⟩] [2, 5] [0, 2, 5, 39, 47, 11205, 11206]) (.seq (.reg [⟨some 33, .bin .eql (.t 13) (.k (.int .i64 3)), none⟩,
    ⟨some 32, .mv (.t 33), none⟩] [0, 2, 4, 5, 13, 32] [0, 2, 5, 39, 47, 11205, 11206])
  (.cond (.t 32) (.regd [⟨some 34, .faddr 5 (.t 5), none⟩,
    ⟨some 35, .load false 1 (.t 34), none⟩,
    ⟨some 36, .mv (.t 0), none⟩,
    ⟨some 37, .call 237 [.t 36] [0] [], none⟩,
    ⟨some 38, .bslice 4 1 [.int .i64 0, .int .i64 0, .nils 3, .str ⟨#[]⟩] [(0, .t 37)], none⟩,
    ⟨some 39, .app 4 56 (.t 35) (.t 38), none⟩,
    ⟨some 40, .faddr 5 (.t 5), none⟩,
    ⟨none, .store 1 (.t 40) (.t 39), none⟩] [[], [0], [], [2], [2, 3], List.range 5, List.range 6, List.range 7] [2, 5] [0, 2, 5, 39, 47, 11205, 11206]) (.seq (.reg [⟨some 42, .bin .eql (.t 13) (.k (.int .i64 4)), none⟩,
    ⟨some 41, .mv (.t 42), none⟩] [0, 2, 4, 5, 13, 41] [0, 2, 5, 39, 47, 11205, 11206])
  (.cond (.t 41) (.reg [⟨some 43, .faddr 6 (.t 5), none⟩,
    ⟨some 44, .load false 1 (.t 43), none⟩,
    ⟨some 45, .mv (.t 4), none⟩,
    ⟨some 46, .bslice 1 1 [.int .i64 0] [(0, .t 45)], none⟩,
    ⟨some 47, .app 1 8 (.t 44) (.t 46), none⟩,
    ⟨some 48, .faddr 6 (.t 5), none⟩,
    ⟨none, .store 1 (.t 48) (.t 47), none⟩] [2, 5] [0, 2, 5, 39, 47, 11205, 11206]) (.seq (.reg [⟨some 50, .bin .eql (.t 13) (.k (.int .i64 5)), none⟩,
    ⟨some 49, .mv (.t 50), none⟩] [0, 2, 5, 49] [0, 2, 5, 39, 47, 11205, 11206])
  (.cond (.t 49) (.reg [⟨some 51, .mv (.t 0), none⟩,
    ⟨some 52, .call 177 [.t 51] [0] [], none⟩,
    ⟨some 53, .faddr 2 (.t 5), none⟩,
    ⟨none, .store 2 (.t 53) (.t 52), none⟩] [2, 5] [0, 2, 5, 39, 47, 11205, 11206]) (.skip)))))))))))))))
  (.seq (.reg [⟨some 54, .load true 7 (.t 5), none⟩,
    ⟨none, .store 7 (.t 2) (.t 54), none⟩] [2] [0, 2, 39, 47, 11205, 11206])
  (.ret))))))
def spec_l06Any.m : Fn := { np := 1, body := spec_l06Any.b, res := [.cell 2 true 7] }
def spec_l06Any.k (M : Nat → Option Body) : Prop := M 173 = some (.code spec_l06Any.m) ∧ spec_l01Below.k M ∧ spec_l06Box.k M ∧ spec_l03Any.k M ∧ spec_l06Copy.k M ∧ spec_l05Any.k M
def spec_l06Pair.b : C := .seq (.reg [⟨some 2, .alloc [.int .i64 0, .str ⟨#[]⟩, .int .i64 0, .int .i64 0, .int .i64 0, .nils 4, .nils 1], none⟩,
    ⟨some 3, .mv (.k (.int .i64 0)), none⟩] [0, 2] [2, 11205, 11206])
  (.seq (.reg [⟨some 6, .mv (.t 0), none⟩,
    ⟨some 7, .call 124 [.t 6] [] [(0, 10700)], none⟩,
    ⟨some 4, .mv (.t 7), none⟩] [2, 4] [2, 10700, 11205, 11206])
  (.seq (.reg [⟨some 8, .mv (.t 4), none⟩,
    ⟨some 9, .call 125 [.t 8, .k (.int .i64 9)] [0] [], none⟩,
    ⟨some 10, .bin .add (.k (.int .i64 10)) (.t 9), none⟩,
    ⟨some 5, .mv (.t 10), none⟩] [2, 4, 5] [2, 10700, 11205, 11206])
  (.seq (.reg [⟨some 11, .mv (.t 4), none⟩,
    ⟨some 12, .call 173 [.t 11] [0] [(5, 11205), (6, 11206)], none⟩,
    ⟨some 13, .mv (.t 5), none⟩,
    ⟨none, .store 7 (.t 2) (.t 12), none⟩,
    ⟨some 3, .mv (.t 13), none⟩] [2, 3] [2, 11205, 11206])
  (.ret))))
def spec_l06Pair.m : Fn := { np := 1, body := spec_l06Pair.b, res := [.cell 2 true 7, .tmp 3] }
def spec_l06Pair.k (M : Nat → Option Body) : Prop := M 178 = some (.code spec_l06Pair.m) ∧ spec_l01New.k M ∧ spec_l01Below.k M ∧ spec_l06Any.k M
def spec_DrawBoxOk.b : C := .seq (.reg [⟨some 2, .alloc [.int .i64 0, .str ⟨#[]⟩, .int .i64 0, .int .i64 0, .int .i64 0, .nils 4, .nils 1], none⟩] [0, 2] [2, 10505, 10506])
  (.seq (.reg [⟨some 3, .mv (.t 0), none⟩,
    ⟨some 4, .call 124 [.t 3] [] [(0, 10400)], none⟩,
    ⟨some 5, .call 173 [.t 4] [0] [(5, 10505), (6, 10506)], none⟩,
    ⟨none, .store 7 (.t 2) (.t 5), none⟩] [2] [2, 10505, 10506])
  (.ret))
def spec_DrawBoxOk.m : Fn := { np := 1, body := spec_DrawBoxOk.b, res := [.cell 2 true 7] }
def spec_DrawBoxOk.k (M : Nat → Option Body) : Prop := M 79 = some (.code spec_DrawBoxOk.m) ∧ spec_l01New.k M ∧ spec_l06Any.k M
def spec_DrawAddMail.b : C := .seq (.reg [⟨some 2, .alloc [.int .i64 0, .str ⟨#[]⟩, .int .i64 0, .int .i64 0, .int .i64 0, .nils 4, .nils 1], none⟩,
    ⟨some 3, .mv (.k (.int .i64 0)), none⟩,
    ⟨some 4, .mv (.k (.int .i64 0)), none⟩,
    ⟨some 5, .mv (.k (.str ⟨#[]⟩)), none⟩,
    ⟨some 6, .alloc [.int .i64 0, .int .i64 0], none⟩] [0, 2, 6] [2, 6, 12705, 12706])
  (.seq (.reg [⟨some 13, .mv (.t 0), none⟩,
    ⟨some 14, .call 124 [.t 13] [] [(0, 11400)], none⟩,
    ⟨some 7, .mv (.t 14), none⟩] [0, 2, 6, 7] [2, 6, 11400, 12705, 12706])
  (.seq (.reg [⟨some 15, .mv (.t 7), none⟩,
    ⟨some 16, .call 125 [.t 15, .k (.int .i64 10)] [0] [], none⟩,
    ⟨some 17, .bin .sub (.t 16) (.k (.int .i64 1)), none⟩,
    ⟨some 8, .mv (.t 17), none⟩] [0, 2, 6, 7, 8] [2, 6, 11400, 12705, 12706])
  (.seq (.reg [⟨some 18, .mv (.t 7), none⟩,
    ⟨some 19, .call 174 [.t 18] [0] [], none⟩,
    ⟨some 9, .mv (.t 19), none⟩] [0, 2, 6, 7, 8, 9] [2, 6, 11400, 12705, 12706])
  (.seq (.seq (.reg [⟨some 20, .mv (.t 7), none⟩,
    ⟨some 21, .call 175 [.t 20, .k (.int .i64 10)] [0] [], none⟩] [0, 2, 6, 7, 8, 9, 21] [2, 6, 11400, 12705, 12706])
  (.cond (.t 21) (.reg [⟨some 22, .call 176 [.k (.int .i64 61), .k (.int .u8 97)] [] [], none⟩,
    ⟨some 9, .mv (.t 22), none⟩] [0, 2, 6, 7, 8, 9] [2, 6, 11400, 12705, 12706]) (.skip)))
  (.seq (.reg [⟨some 23, .mv (.t 7), none⟩,
    ⟨some 24, .call 177 [.t 23] [0] [], none⟩,
    ⟨some 10, .alloc [.int .i64 0, .int .i64 0], none⟩,
    ⟨none, .store 2 (.t 10) (.t 24), none⟩] [0, 2, 6, 7, 8, 9, 10] [2, 6, 10, 11400, 12705, 12706])
  (.seq (.reg [⟨some 26, .mv (.t 0), none⟩,
    ⟨some 27, .call 178 [.t 26] [] [(5, 12705), (6, 12706)], none⟩,
    ⟨some 25, .mv (.t 27), none⟩,
    ⟨some 28, .ext 0 (.t 25), none⟩,
    ⟨some 29, .ext 1 (.t 25), none⟩,
    ⟨some 11, .alloc [.int .i64 0, .str ⟨#[]⟩, .int .i64 0, .int .i64 0, .int .i64 0, .nils 4, .nils 1], none⟩,
    ⟨none, .store 7 (.t 11) (.t 28), none⟩,
    ⟨some 12, .mv (.t 29), none⟩] [2, 6, 7, 8, 9, 10, 11, 12] [2, 6, 10, 11, 11400, 12705, 12706])
  (.seq (.seq (.reg [⟨some 30, .mv (.t 7), none⟩,
    ⟨some 31, .call 175 [.t 30, .k (.int .i64 10)] [0] [], none⟩] [2, 6, 7, 8, 9, 10, 11, 12, 31] [2, 6, 10, 11, 11400, 12705, 12706])
  (.cond (.t 31) (.reg [⟨some 32, .mv (.t 7), none⟩,
    ⟨some 33, .bslf 1 2 [.int .i64 0] [(0, .k (.int .i64 0)), (1, .k (.int .i64 10000))], none⟩,
    ⟨some 34, .call 179 [.t 32, .t 33] [0] [], none⟩,
    ⟨some 12, .mv (.t 34), none⟩] [2, 6, 8, 9, 10, 11, 12] [2, 6, 10, 11, 12705, 12706]) (.skip)))
  (.seq (.regd [⟨some 35, .load true 7 (.t 11), none⟩,
    ⟨some 36, .mv (.t 12), none⟩,
    ⟨some 37, .mv (.t 8), none⟩,
    ⟨some 38, .mv (.t 9), none⟩,
    ⟨some 39, .load true 2 (.t 10), none⟩,
    ⟨none, .store 7 (.t 2) (.t 35), none⟩,
    ⟨some 3, .mv (.t 36), none⟩,
    ⟨some 4, .mv (.t 37), none⟩,
    ⟨some 5, .mv (.t 38), none⟩,
    ⟨none, .store 2 (.t 6) (.t 39), none⟩] [[], [], [], [], [], [0], [0, 1, 5], [0, 1, 2, 5, 6], List.range 4 ++ [5, 6, 7], List.range 9] [2, 3, 4, 5, 6] [2, 6, 12705, 12706])
  (.ret)))))))))
def spec_DrawAddMail.m : Fn := { np := 1, body := spec_DrawAddMail.b, res := [.cell 2 true 7, .tmp 3, .tmp 4, .tmp 5, .cell 6 true 2] }
def spec_DrawAddMail.k (M : Nat → Option Body) : Prop := M 80 = some (.code spec_DrawAddMail.m) ∧ spec_l01New.k M ∧ spec_l01Below.k M ∧ spec_l05Text.k M ∧ spec_l01Once.k M ∧ spec_l01Long.k M ∧ spec_l03Any.k M ∧ spec_l06Pair.k M ∧ spec_l01PickInt.k M
def spec_DrawFlagMail.b : C := .seq (.reg [⟨some 2, .alloc [.int .i64 0, .str ⟨#[]⟩, .int .i64 0, .int .i64 0, .int .i64 0, .nils 4, .nils 1], none⟩,
    ⟨some 3, .mv (.k (.int .i64 0)), none⟩,
    ⟨some 4, .mv (.k (.int .i64 0)), none⟩,
    ⟨some 5, .alloc [.int .i64 0, .int .i64 0], none⟩] [0, 2, 5] [2, 5, 12005, 12006])
  (.seq (.reg [⟨some 11, .mv (.t 0), none⟩,
    ⟨some 12, .call 124 [.t 11] [] [(0, 11200)], none⟩,
    ⟨some 6, .mv (.t 12), none⟩] [0, 2, 5, 6] [2, 5, 11200, 12005, 12006])
  (.seq (.reg [⟨some 13, .mv (.t 6), none⟩,
    ⟨some 14, .call 125 [.t 13, .k (.int .i64 10)] [0] [], none⟩,
    ⟨some 15, .bin .sub (.t 14) (.k (.int .i64 1)), none⟩,
    ⟨some 7, .mv (.t 15), none⟩] [0, 2, 5, 6, 7] [2, 5, 11200, 12005, 12006])
  (.seq (.reg [⟨some 16, .mv (.t 6), none⟩,
    ⟨some 17, .call 177 [.t 16] [0] [], none⟩,
    ⟨some 8, .alloc [.int .i64 0, .int .i64 0], none⟩,
    ⟨none, .store 2 (.t 8) (.t 17), none⟩] [0, 2, 5, 7, 8] [2, 5, 8, 12005, 12006])
  (.seq (.reg [⟨some 19, .mv (.t 0), none⟩,
    ⟨some 20, .call 178 [.t 19] [] [(5, 12005), (6, 12006)], none⟩,
    ⟨some 18, .mv (.t 20), none⟩,
    ⟨some 21, .ext 0 (.t 18), none⟩,
    ⟨some 22, .ext 1 (.t 18), none⟩,
    ⟨some 9, .alloc [.int .i64 0, .str ⟨#[]⟩, .int .i64 0, .int .i64 0, .int .i64 0, .nils 4, .nils 1], none⟩,
    ⟨none, .store 7 (.t 9) (.t 21), none⟩,
    ⟨some 10, .mv (.t 22), none⟩] [2, 5, 7, 8, 9, 10] [2, 5, 8, 9, 12005, 12006])
  (.seq (.regd [⟨some 23, .load true 7 (.t 9), none⟩,
    ⟨some 24, .mv (.t 10), none⟩,
    ⟨some 25, .mv (.t 7), none⟩,
    ⟨some 26, .load true 2 (.t 8), none⟩,
    ⟨none, .store 7 (.t 2) (.t 23), none⟩,
    ⟨some 3, .mv (.t 24), none⟩,
    ⟨some 4, .mv (.t 25), none⟩,
    ⟨none, .store 2 (.t 5) (.t 26), none⟩] [[], [], [], [], [0], [0, 1, 4], [0, 1, 2, 4, 5], List.range 7] [2, 3, 4, 5] [2, 5, 12005, 12006])
  (.ret))))))
def spec_DrawFlagMail.m : Fn := { np := 1, body := spec_DrawFlagMail.b, res := [.cell 2 true 7, .tmp 3, .tmp 4, .cell 5 true 2] }
def spec_DrawFlagMail.k (M : Nat → Option Body) : Prop := M 82 = some (.code spec_DrawFlagMail.m) ∧ spec_l01New.k M ∧ spec_l01Below.k M ∧ spec_l03Any.k M ∧ spec_l06Pair.k M
def spec_DrawTakeOut.b : C := .seq (.reg [⟨some 2, .alloc [.int .i64 0, .str ⟨#[]⟩, .int .i64 0, .int .i64 0, .int .i64 0, .nils 4, .nils 1], none⟩,
    ⟨some 3, .mv (.k (.int .i64 0)), none⟩] [0, 2] [2, 10505, 10506])
  (.seq (.reg [⟨some 4, .mv (.t 0), none⟩,
    ⟨some 5, .call 178 [.t 4] [] [(5, 10505), (6, 10506)], none⟩,
    ⟨some 6, .ext 0 (.t 5), none⟩,
    ⟨some 7, .ext 1 (.t 5), none⟩,
    ⟨none, .store 7 (.t 2) (.t 6), none⟩,
    ⟨some 3, .mv (.t 7), none⟩] [2, 3] [2, 10505, 10506])
  (.ret))
def spec_DrawTakeOut.m : Fn := { np := 1, body := spec_DrawTakeOut.b, res := [.cell 2 true 7, .tmp 3] }
def spec_DrawTakeOut.k (M : Nat → Option Body) : Prop := M 85 = some (.code spec_DrawTakeOut.m) ∧ spec_l06Pair.k M
def spec_DrawNameOk.b : C := .seq (.reg [⟨some 2, .mv (.k (.str ⟨#[]⟩)), none⟩] [0] [])
  (.seq (.reg [⟨some 4, .mv (.t 0), none⟩,
    ⟨some 5, .call 124 [.t 4] [] [(0, 10500)], none⟩,
    ⟨some 3, .mv (.t 5), none⟩] [3] [10500])
  (.seq (.reg [⟨some 6, .mv (.t 3), none⟩,
    ⟨some 7, .bslf 1 7 [.str ⟨#[]⟩] [(0, .k (.str ⟨#[]⟩)), (1, .k (.str ⟨#[97]⟩)), (2, .k (.str ⟨#[97, 98, 99, 57]⟩)), (3, .k (.str ⟨#[116, 119, 101, 108, 118, 101, 115, 105, 103, 110, 115, 57]⟩)), (4, .k (.str ⟨#[116, 104, 105, 114, 116, 101, 101, 110, 115, 105, 103, 110, 115]⟩)), (5, .k (.str ⟨#[65]⟩)), (6, .k (.str ⟨#[97, 32, 98]⟩))], none⟩,
    ⟨some 8, .call 185 [.t 6, .t 7] [0] [], none⟩,
    ⟨some 2, .mv (.t 8), none⟩] [2] [])
  (.ret)))
def spec_DrawNameOk.m : Fn := { np := 1, body := spec_DrawNameOk.b, res := [.tmp 2] }
def spec_DrawNameOk.k (M : Nat → Option Body) : Prop := M 87 = some (.code spec_DrawNameOk.m) ∧ spec_l01New.k M ∧ spec_l01Pick.k M
def laws_FnBoxesTold.b : C := .seq (.reg [⟨some 2, .mv (.k (.bool false)), none⟩] [0] [])
  (.seq (.seq (.reg [⟨some 28, .mv (.t 0), none⟩,
    ⟨some 29, .call 36 [.t 28] [] [], none⟩] [0, 29] [])
  (.cond (.t 29) (.seq (.reg [⟨some 2, .mv (.k (.bool true)), none⟩] [2] [])
  (.ret)) (.skip)))
  (.seq (.reg [⟨some 30, .mv (.t 0), none⟩,
    ⟨some 31, .call 79 [.t 30] [] [], none⟩,
    ⟨some 3, .alloc [.int .i64 0, .str ⟨#[]⟩, .int .i64 0, .int .i64 0, .int .i64 0, .nils 4, .nils 1], none⟩,
    ⟨none, .store 7 (.t 3) (.t 31), none⟩] [0, 3] [3])
  (.seq (.reg [⟨some 33, .mv (.t 0), none⟩,
    ⟨some 34, .call 80 [.t 33] [] [], none⟩,
    ⟨some 32, .mv (.t 34), none⟩,
    ⟨some 35, .ext 0 (.t 32), none⟩,
    ⟨some 36, .ext 1 (.t 32), none⟩,
    ⟨some 37, .ext 2 (.t 32), none⟩,
    ⟨some 38, .ext 3 (.t 32), none⟩,
    ⟨some 39, .ext 4 (.t 32), none⟩,
    ⟨some 4, .alloc [.int .i64 0, .str ⟨#[]⟩, .int .i64 0, .int .i64 0, .int .i64 0, .nils 4, .nils 1], none⟩,
    ⟨some 8, .alloc [.int .i64 0, .int .i64 0], none⟩,
    ⟨none, .store 7 (.t 4) (.t 35), none⟩,
    ⟨some 5, .mv (.t 36), none⟩,
    ⟨some 6, .mv (.t 37), none⟩,
    ⟨some 7, .mv (.t 38), none⟩,
    ⟨none, .store 2 (.t 8) (.t 39), none⟩] [0, 3, 4, 5, 6, 7, 8] [3, 4, 8])
  (.seq (.reg [⟨some 41, .load true 7 (.t 4), none⟩,
    ⟨some 42, .mv (.t 5), none⟩,
    ⟨some 43, .mv (.t 6), none⟩,
    ⟨some 44, .mv (.t 7), none⟩,
    ⟨some 45, .load true 2 (.t 8), none⟩,
    ⟨some 46, .call 70 [.t 41, .t 42, .t 43, .t 44, .t 45] [] [], none⟩,
    ⟨some 40, .mv (.t 46), none⟩,
    ⟨some 47, .ext 0 (.t 40), none⟩,
    ⟨some 48, .ext 1 (.t 40), none⟩,
    ⟨some 9, .alloc [.int .i64 0, .str ⟨#[]⟩, .int .i64 0, .int .i64 0, .int .i64 0, .nils 4, .nils 1], none⟩,
    ⟨none, .store 7 (.t 9) (.t 47), none⟩,
    ⟨some 10, .mv (.t 48), none⟩] [0, 3, 4, 5, 6, 7, 8, 9, 10] [3, 4, 8, 9])
  (.seq (.reg [⟨some 50, .load true 7 (.t 4), none⟩,
    ⟨some 51, .mv (.t 5), none⟩,
    ⟨some 52, .mv (.t 6), none⟩,
    ⟨some 53, .mv (.t 7), none⟩,
    ⟨some 54, .load true 2 (.t 8), none⟩,
    ⟨some 55, .call 81 [.t 50, .t 51, .t 52, .t 53, .t 54] [] [], none⟩,
    ⟨some 49, .mv (.t 55), none⟩,
    ⟨some 56, .ext 0 (.t 49), none⟩,
    ⟨some 57, .ext 1 (.t 49), none⟩,
    ⟨some 11, .alloc [.int .i64 0, .str ⟨#[]⟩, .int .i64 0, .int .i64 0, .int .i64 0, .nils 4, .nils 1], none⟩,
    ⟨none, .store 7 (.t 11) (.t 56), none⟩,
    ⟨some 12, .mv (.t 57), none⟩] [0, 3, 5, 9, 10, 11, 12] [3, 9, 11])
  (.seq (.reg [⟨some 59, .mv (.t 0), none⟩,
    ⟨some 60, .call 82 [.t 59] [] [], none⟩,
    ⟨some 58, .mv (.t 60), none⟩,
    ⟨some 61, .ext 0 (.t 58), none⟩,
    ⟨some 62, .ext 1 (.t 58), none⟩,
    ⟨some 63, .ext 2 (.t 58), none⟩,
    ⟨some 64, .ext 3 (.t 58), none⟩,
    ⟨some 13, .alloc [.int .i64 0, .str ⟨#[]⟩, .int .i64 0, .int .i64 0, .int .i64 0, .nils 4, .nils 1], none⟩,
    ⟨some 16, .alloc [.int .i64 0, .int .i64 0], none⟩,
    ⟨none, .store 7 (.t 13) (.t 61), none⟩,
    ⟨some 14, .mv (.t 62), none⟩,
    ⟨some 15, .mv (.t 63), none⟩,
    ⟨none, .store 2 (.t 16) (.t 64), none⟩] [0, 3, 5, 9, 10, 11, 12, 13, 14, 15, 16] [3, 9, 11, 13, 16])
  (.seq (.reg [⟨some 66, .load true 7 (.t 13), none⟩,
    ⟨some 67, .mv (.t 14), none⟩,
    ⟨some 68, .mv (.t 15), none⟩,
    ⟨some 69, .load true 2 (.t 16), none⟩,
    ⟨some 70, .call 83 [.t 66, .t 67, .t 68, .t 69] [] [], none⟩,
    ⟨some 65, .mv (.t 70), none⟩,
    ⟨some 71, .ext 0 (.t 65), none⟩,
    ⟨some 72, .ext 1 (.t 65), none⟩,
    ⟨some 17, .alloc [.int .i64 0, .str ⟨#[]⟩, .int .i64 0, .int .i64 0, .int .i64 0, .nils 4, .nils 1], none⟩,
    ⟨none, .store 7 (.t 17) (.t 71), none⟩,
    ⟨some 18, .mv (.t 72), none⟩] [0, 3, 5, 9, 10, 11, 12, 13, 14, 15, 16, 17, 18] [3, 9, 11, 13, 16, 17])
  (.seq (.reg [⟨some 74, .load true 7 (.t 13), none⟩,
    ⟨some 75, .mv (.t 14), none⟩,
    ⟨some 76, .mv (.t 15), none⟩,
    ⟨some 77, .load true 2 (.t 16), none⟩,
    ⟨some 78, .call 84 [.t 74, .t 75, .t 76, .t 77] [] [], none⟩,
    ⟨some 73, .mv (.t 78), none⟩,
    ⟨some 79, .ext 0 (.t 73), none⟩,
    ⟨some 80, .ext 1 (.t 73), none⟩,
    ⟨some 19, .alloc [.int .i64 0, .str ⟨#[]⟩, .int .i64 0, .int .i64 0, .int .i64 0, .nils 4, .nils 1], none⟩,
    ⟨none, .store 7 (.t 19) (.t 79), none⟩,
    ⟨some 20, .mv (.t 80), none⟩] [0, 3, 5, 9, 10, 11, 12, 17, 18, 19, 20] [3, 9, 11, 17, 19])
  (.seq (.reg [⟨some 82, .mv (.t 0), none⟩,
    ⟨some 83, .call 85 [.t 82] [] [], none⟩,
    ⟨some 81, .mv (.t 83), none⟩,
    ⟨some 84, .ext 0 (.t 81), none⟩,
    ⟨some 85, .ext 1 (.t 81), none⟩,
    ⟨some 21, .alloc [.int .i64 0, .str ⟨#[]⟩, .int .i64 0, .int .i64 0, .int .i64 0, .nils 4, .nils 1], none⟩,
    ⟨none, .store 7 (.t 21) (.t 84), none⟩,
    ⟨some 22, .mv (.t 85), none⟩] [0, 3, 5, 9, 10, 11, 12, 17, 18, 19, 20, 21, 22] [3, 9, 11, 17, 19, 21])
  (.seq (.reg [⟨some 87, .load true 7 (.t 21), none⟩,
    ⟨some 88, .mv (.t 22), none⟩,
    ⟨some 89, .call 73 [.t 87, .t 88] [] [], none⟩,
    ⟨some 86, .mv (.t 89), none⟩,
    ⟨some 90, .ext 0 (.t 86), none⟩,
    ⟨some 91, .ext 1 (.t 86), none⟩,
    ⟨some 23, .alloc [.int .i64 0, .str ⟨#[]⟩, .int .i64 0, .int .i64 0, .int .i64 0, .nils 4, .nils 1], none⟩,
    ⟨none, .store 7 (.t 23) (.t 90), none⟩,
    ⟨some 24, .mv (.t 91), none⟩] [0, 3, 5, 9, 10, 11, 12, 17, 18, 19, 20, 21, 22, 23, 24] [3, 9, 11, 17, 19, 21, 23])
  (.seq (.reg [⟨some 93, .load true 7 (.t 21), none⟩,
    ⟨some 94, .mv (.t 22), none⟩,
    ⟨some 95, .call 86 [.t 93, .t 94] [] [], none⟩,
    ⟨some 92, .mv (.t 95), none⟩,
    ⟨some 96, .ext 0 (.t 92), none⟩,
    ⟨some 97, .ext 1 (.t 92), none⟩,
    ⟨some 25, .alloc [.int .i64 0, .str ⟨#[]⟩, .int .i64 0, .int .i64 0, .int .i64 0, .nils 4, .nils 1], none⟩,
    ⟨none, .store 7 (.t 25) (.t 96), none⟩,
    ⟨some 26, .mv (.t 97), none⟩] [0, 3, 5, 9, 10, 11, 12, 17, 18, 19, 20, 23, 24, 25, 26] [3, 9, 11, 17, 19, 23, 25])
  (.seq (.reg [⟨some 98, .mv (.t 0), none⟩,
    ⟨some 99, .call 87 [.t 98] [] [], none⟩,
    ⟨some 27, .mv (.t 99), none⟩] [3, 5, 9, 10, 11, 12, 17, 18, 19, 20, 23, 24, 25, 26, 27] [3, 9, 11, 17, 19, 23, 25])
  (.seq (.regd [⟨some 100, .load true 7 (.t 3), none⟩,
    ⟨some 101, .call 74 [.t 100] [] [], none⟩,
    ⟨some 102, .load true 7 (.t 3), none⟩,
    ⟨some 103, .call 88 [.t 102] [] [], none⟩,
    ⟨some 104, .beq false (.t 101) (.t 103), none⟩,
    ⟨some 105, .mv (.t 104), none⟩,
    ⟨some 106, .mv (.t 10), some (105, true)⟩,
    ⟨some 107, .mv (.t 12), some (105, true)⟩,
    ⟨some 108, .beq false (.t 106) (.t 107), some (105, true)⟩,
    ⟨some 109, .pick (.t 105) (.t 108) (.k (.bool false)), none⟩,
    ⟨some 110, .mv (.t 109), none⟩,
    ⟨some 111, .load true 7 (.t 9), some (110, true)⟩,
    ⟨some 112, .load true 7 (.t 11), some (110, true)⟩,
    ⟨some 113, .call 71 [.t 111, .t 112] [] [], some (110, true)⟩,
    ⟨some 114, .pick (.t 110) (.t 113) (.k (.bool false)), none⟩,
    ⟨some 115, .mv (.t 114), none⟩,
    ⟨some 116, .mv (.t 18), some (115, true)⟩,
    ⟨some 117, .mv (.t 20), some (115, true)⟩,
    ⟨some 118, .beq false (.t 116) (.t 117), some (115, true)⟩,
    ⟨some 119, .pick (.t 115) (.t 118) (.k (.bool false)), none⟩,
    ⟨some 120, .mv (.t 119), none⟩,
    ⟨some 121, .load true 7 (.t 17), some (120, true)⟩,
    ⟨some 122, .load true 7 (.t 19), some (120, true)⟩,
    ⟨some 123, .call 71 [.t 121, .t 122] [] [], some (120, true)⟩,
    ⟨some 124, .pick (.t 120) (.t 123) (.k (.bool false)), none⟩,
    ⟨some 125, .mv (.t 124), none⟩,
    ⟨some 126, .mv (.t 24), some (125, true)⟩,
    ⟨some 127, .mv (.t 26), some (125, true)⟩,
    ⟨some 128, .beq false (.t 126) (.t 127), some (125, true)⟩,
    ⟨some 129, .pick (.t 125) (.t 128) (.k (.bool false)), none⟩,
    ⟨some 130, .mv (.t 129), none⟩,
    ⟨some 131, .load true 7 (.t 23), some (130, true)⟩,
    ⟨some 132, .load true 7 (.t 25), some (130, true)⟩,
    ⟨some 133, .call 71 [.t 131, .t 132] [] [], some (130, true)⟩,
    ⟨some 134, .pick (.t 130) (.t 133) (.k (.bool false)), none⟩,
    ⟨some 135, .mv (.t 134), none⟩,
    ⟨some 136, .mv (.t 27), some (135, true)⟩,
    ⟨some 137, .call 89 [.t 136] [] [], some (135, true)⟩,
    ⟨some 138, .mv (.t 27), some (135, true)⟩,
    ⟨some 139, .call 90 [.t 138] [] [], some (135, true)⟩,
    ⟨some 140, .beq false (.t 137) (.t 139), some (135, true)⟩,
    ⟨some 141, .pick (.t 135) (.t 140) (.k (.bool false)), none⟩,
    ⟨some 142, .mv (.t 141), none⟩,
    ⟨some 143, .load true 7 (.t 3), some (142, true)⟩,
    ⟨some 144, .mv (.t 5), some (142, true)⟩,
    ⟨some 145, .call 72 [.t 143, .t 144] [] [], some (142, true)⟩,
    ⟨some 146, .load true 7 (.t 3), some (142, true)⟩,
    ⟨some 147, .mv (.t 5), some (142, true)⟩,
    ⟨some 148, .call 91 [.t 146, .t 147] [] [], some (142, true)⟩,
    ⟨some 149, .bin .eql (.t 145) (.t 148), some (142, true)⟩,
    ⟨some 150, .pick (.t 142) (.t 149) (.k (.bool false)), none⟩,
    ⟨some 2, .mv (.t 150), none⟩] [[], [0], [], [0, 1, 2], List.range 4, List.range 5, List.range 6, List.range 6, List.range 8, List.range 9, List.range 10, List.range 11, List.range 11, List.range 13, List.range 14, List.range 15, List.range 16, List.range 16, List.range 18, List.range 19, List.range 20, List.range 21, List.range 21, List.range 23, List.range 24, List.range 25, List.range 26, List.range 26, List.range 28, List.range 29, List.range 30, List.range 31, List.range 31, List.range 33, List.range 34, List.range 35, List.range 36, List.range 37, List.range 36, List.range 39, List.range 40, List.range 41, List.range 42, List.range 43, List.range 43, List.range 45, List.range 43, List.range 43, List.range 48, List.range 49, List.range 50, List.range 51] [2] [])
  (.ret))))))))))))))
def laws_FnBoxesTold.m : Fn := { np := 1, body := laws_FnBoxesTold.b, res := [.tmp 2] }
def laws_FnBoxesTold.k (M : Nat → Option Body) : Prop := M 391 = some (.code laws_FnBoxesTold.m) ∧ laws_big.k M ∧ impl_AddMail.k M ∧ laws_sameBox.k M ∧ impl_MailAt.k M ∧ impl_TakeOut.k M ∧ impl_BoxOk.k M ∧ spec_DrawBoxOk.k M ∧ spec_DrawAddMail.k M ∧ spec_AddMail.k M ∧ spec_DrawFlagMail.k M ∧ impl_FlagMail.k M ∧ spec_FlagMail.k M ∧ spec_DrawTakeOut.k M ∧ spec_TakeOut.k M ∧ spec_DrawNameOk.k M ∧ spec_BoxOk.k M ∧ impl_NameOk.k M ∧ spec_NameOk.k M ∧ spec_MailAt.k M
end Mx

/-
  Numbers bit by bit.
-/
namespace Mx
open Go
theorem wrap_u8 (x : Int) : IntKind.u8.wrap x = x % 256 := by
  unfold IntKind.wrap; simp [IntKind.bits, IntKind.signed]
theorem wrap_u32 (x : Int) : IntKind.u32.wrap x = x % 4294967296 := by
  unfold IntKind.wrap; simp [IntKind.bits, IntKind.signed]

theorem andI_eq (k : IntKind) (x y : Int) : andI k x y = k.wrap (((x % ((2 ^ k.bits : Nat) : Int)).toNat &&& (y % ((2 ^ k.bits : Nat) : Int)).toNat : Nat) : Int) := by
  unfold andI; rw [BitVec.toNat_and, BitVec.toNat_ofInt, BitVec.toNat_ofInt]
theorem orI_eq (k : IntKind) (x y : Int) : orI k x y = k.wrap (((x % ((2 ^ k.bits : Nat) : Int)).toNat ||| (y % ((2 ^ k.bits : Nat) : Int)).toNat : Nat) : Int) := by
  unfold orI; rw [BitVec.toNat_or, BitVec.toNat_ofInt, BitVec.toNat_ofInt]
theorem and_i64 (n m : Nat) (hn : n < 9223372036854775808) (hm : m < 9223372036854775808) : andI .i64 n m = ((n &&& m : Nat) : Int) := by
  rw [andI_eq]
  have e : ∀ k : Nat, k < 9223372036854775808 → ((k : Int) % ((2 ^ IntKind.i64.bits : Nat) : Int)).toNat = k := by
    intro k hk
    show ((k : Int) % 18446744073709551616).toNat = k
    omega
  rw [e n hn, e m hm]
  have : n &&& m ≤ n := Nat.and_le_left
  exact wrap_i64 (by omega) (by omega)
theorem or_i64 (n m : Nat) (hn : n < 9223372036854775808) (hm : m < 9223372036854775808) : orI .i64 n m = ((n ||| m : Nat) : Int) := by
  rw [orI_eq]
  have e : ∀ k : Nat, k < 9223372036854775808 → ((k : Int) % ((2 ^ IntKind.i64.bits : Nat) : Int)).toNat = k := by
    intro k hk
    show ((k : Int) % 18446744073709551616).toNat = k
    omega
  rw [e n hn, e m hm]
  have : n ||| m < 2 ^ 63 := Nat.or_lt_two_pow (by omega) (by omega)
  exact wrap_i64 (by omega) (by omega)
theorem and_u8 (n m : Nat) (hn : n < 256) (hm : m < 256) : andI .u8 n m = ((n &&& m : Nat) : Int) := by
  rw [andI_eq]
  have e : ∀ k : Nat, k < 256 → ((k : Int) % ((2 ^ IntKind.u8.bits : Nat) : Int)).toNat = k := by
    intro k hk
    show ((k : Int) % 256).toNat = k
    omega
  rw [e n hn, e m hm, wrap_u8]
  have : n &&& m ≤ n := Nat.and_le_left
  omega
theorem and_127 (n : Nat) : n &&& 127 = n % 128 := Nat.and_two_pow_sub_one_eq_mod n 7
theorem or_128 (n : Nat) (h : n < 128) : n ||| 128 = n + 128 := by
  have := Nat.two_pow_add_eq_or_of_lt (i := 7) (b := n) h 1
  rw [Nat.or_comm]
  have e : 2 ^ 7 * 1 = 128 := by decide
  rw [e] at this
  omega
/-- digits above stand for themselves -/
theorem or_high (n d k : Nat) (h : n < 128 ^ k) : n ||| d * 128 ^ k = n + d * 128 ^ k := by
  have e : (128 : Nat) ^ k = 2 ^ (7 * k) := by rw [show (128 : Nat) = 2 ^ 7 by decide, ← Nat.pow_mul]
  rw [e] at h ⊢
  have := Nat.two_pow_add_eq_or_of_lt (i := 7 * k) (b := n) h d
  rw [Nat.or_comm, Nat.mul_comm d, ← this, Nat.add_comm]
theorem brow_nil : brow [] = [] := rfl
theorem brow1 (b : UInt8) : [[T.int .u8 (b.toNat : Int)]] = brow [b] := rfl
theorem ofNat_toNat (n : Nat) : ((UInt8.ofNat n).toNat : Int) = (n : Int) % 256 := by simp
attribute [simp] brow_nil
end Mx

/-
  What is drawn: the cursor.
-/
namespace Mx
open Go
variable {M : Nat → Option Body}
abbrev curD (R : List (List T)) (i : Nat) (h : Int) : Nat × Ob := (0, ⟨0, 3, true, true, [[.sl false 1 R, I i, I h]]⟩)
def Bytes (R : List (List T)) : Prop := R.length ≤ 1048576 ∧ ∀ (i : Nat) (r : List T), R[i]? = some r → ∃ n : Int, r = [.int .u8 n]
theorem and_255 (x : Int) : ∃ n : Nat, n < 256 ∧ andI .i64 x 255 = (n : Int) := by
  rw [andI_eq]
  refine ⟨(x % ((2 ^ IntKind.i64.bits : Nat) : Int)).toNat &&& 255, ?_, ?_⟩
  · have : (x % ((2 ^ IntKind.i64.bits : Nat) : Int)).toNat &&& 255 ≤ 255 := Nat.and_le_right
    omega
  · have h : (x % ((2 ^ IntKind.i64.bits : Nat) : Int)).toNat &&& 255 ≤ 255 := Nat.and_le_right
    have e : ((255 : Int) % ((2 ^ IntKind.i64.bits : Nat) : Int)).toNat = 255 := by decide
    rw [e]
    exact wrap_i64 (by omega) (by omega)
theorem spec_l01Byte.says (h : spec_l01Byte.k M) {R : List (List T)} (hR : Bytes R) (i : Nat) (q : Int) (hi : i ≤ R.length) :
    ∃ (x i' : Nat) (q' : Int), x < 256 ∧ i' ≤ R.length ∧ run M 131 [.c (.ptr 0 0 0 0)] [curD R i q] = some (.c (I x), [curD R i' q']) := by
  obtain ⟨hl, hb⟩ := hR
  obtain ⟨q1, hq1⟩ : ∃ q1, IntKind.i64.wrap (IntKind.i64.wrap (q * 6364136223846793005) + 1442695040888963407) = q1 := ⟨_, rfl⟩
  obtain ⟨x, hx, e1⟩ := and_255 (xorI .i64 (q1.fdiv ((2 : Int) ^ min 33 IntKind.i64.bits)) (q1.fdiv ((2 : Int) ^ min 45 IntKind.i64.bits)))
  by_cases hlt : i < R.length
  · obtain ⟨n, hn⟩ := hb i R[i] (List.getElem?_eq_getElem hlt)
    obtain ⟨y, hy, e2⟩ := and_255 (IntKind.i64.wrap (x + IntKind.i64.wrap n))
    refine ⟨y, i + 1, q1, hy, by omega, ?_⟩
    refine run_code (b := spec_l01Byte.m) h ⟨0, ?_⟩
    have e3 : IntKind.i64.wrap ((i : Int) + 1) = (i : Int) + 1 := wrap_i64 (by omega) (by omega)
    simp (maxSteps := 1000000) [exB, spec_l01Byte.m, spec_l01Byte.b, List.range_succ, bs_get, setAt, hq1, e1, e2, e3, hlt, hn]
  · refine ⟨x, i, q1, hx, hi, ?_⟩
    refine run_code (b := spec_l01Byte.m) h ⟨0, ?_⟩
    simp (maxSteps := 1000000) [exB, spec_l01Byte.m, spec_l01Byte.b, List.range_succ, bs_get, setAt, hq1, e1, hlt]
theorem and_i64n (x : Int) (m : Nat) (hm : m < 9223372036854775808) : ∃ n : Nat, n ≤ m ∧ andI .i64 x m = (n : Int) := by
  rw [andI_eq]
  have h : (x % ((2 ^ IntKind.i64.bits : Nat) : Int)).toNat &&& ((m : Int) % ((2 ^ IntKind.i64.bits : Nat) : Int)).toNat ≤ ((m : Int) % ((2 ^ IntKind.i64.bits : Nat) : Int)).toNat := Nat.and_le_right
  have e : ((m : Int) % ((2 ^ IntKind.i64.bits : Nat) : Int)).toNat = m := by
    show ((m : Int) % 18446744073709551616).toNat = m
    omega
  rw [e] at h ⊢
  exact ⟨_, h, wrap_i64 (by omega) (by omega)⟩
theorem tmod_small (x n : Nat) (hn : 0 < n) : ∃ y : Nat, y < n ∧ ((x : Int).tmod (n : Int)) = (y : Int) := ⟨x % n, Nat.mod_lt _ hn, by rw [Int.tmod_eq_emod_of_nonneg (by omega)]; rfl⟩
/-- a number below n (at most 256, or a drawn one of four bytes) -/
theorem spec_l01Below.says (h : spec_l01Below.k M) {R : List (List T)} (hR : Bytes R) (i : Nat) (q : Int) (hi : i ≤ R.length) (n : Nat) (hn : 0 < n) (hn2 : n ≤ 1000000000) :
    ∃ (x i' : Nat) (q' : Int), x < n ∧ i' ≤ R.length ∧ run M 125 [.c (.ptr 0 0 0 0), .c (I n)] [curD R i q] = some (.c (I x), [curD R i' q']) := by
  obtain ⟨h0, k1⟩ := h
  have n0 : ¬ (n : Int) ≤ 0 := by omega
  have n1 : ¬ n = 0 := by omega
  obtain ⟨x1, i1, q1, hx1, hi1, h1⟩ := spec_l01Byte.says k1 hR i q hi
  by_cases hs : n ≤ 256
  · have hs2 : (n : Int) ≤ 256 := by omega
    obtain ⟨y, hy, e⟩ := tmod_small x1 n hn
    refine ⟨y, i1, q1, hy, hi1, ?_⟩
    refine run_code (b := spec_l01Below.m) h0 ⟨0, ?_⟩
    simp (maxSteps := 1000000) [exB, spec_l01Below.m, spec_l01Below.b, List.range_succ, bs_get, setAt, h1, n0, n1, hs, hs2, e]
  · have hs2 : ¬ (n : Int) ≤ 256 := by omega
    obtain ⟨x2, i2, q2, hx2, hi2, h2⟩ := spec_l01Byte.says k1 hR i1 q1 hi1
    obtain ⟨x3, i3, q3, hx3, hi3, h3⟩ := spec_l01Byte.says k1 hR i2 q2 hi2
    obtain ⟨x4, i4, q4, hx4, hi4, h4⟩ := spec_l01Byte.says k1 hR i3 q3 hi3
    have w1 : IntKind.i64.wrap ((x1 : Int) * 16777216) = ((x1 * 16777216 : Nat) : Int) := wrap_i64 (by omega) (by omega)
    have w2 : IntKind.i64.wrap ((x2 : Int) * 65536) = ((x2 * 65536 : Nat) : Int) := wrap_i64 (by omega) (by omega)
    have w3 : IntKind.i64.wrap ((x3 : Int) * 256) = ((x3 * 256 : Nat) : Int) := wrap_i64 (by omega) (by omega)
    obtain ⟨y1, hy1⟩ : ∃ y1, x1 * 16777216 = y1 := ⟨_, rfl⟩
    obtain ⟨y2, hy2⟩ : ∃ y2, x2 * 65536 = y2 := ⟨_, rfl⟩
    obtain ⟨y3, hy3⟩ : ∃ y3, x3 * 256 = y3 := ⟨_, rfl⟩
    rw [hy1] at w1; rw [hy2] at w2; rw [hy3] at w3
    have w4 : IntKind.i64.wrap ((y1 : Int) + y2) = ((y1 + y2 : Nat) : Int) := wrap_i64 (by omega) (by omega)
    obtain ⟨z1, hz1⟩ : ∃ z1, y1 + y2 = z1 := ⟨_, rfl⟩
    rw [hz1] at w4
    have w5 : IntKind.i64.wrap ((z1 : Int) + y3) = ((z1 + y3 : Nat) : Int) := wrap_i64 (by omega) (by omega)
    obtain ⟨z2, hz2⟩ : ∃ z2, z1 + y3 = z2 := ⟨_, rfl⟩
    rw [hz2] at w5
    have w6 : IntKind.i64.wrap ((z2 : Int) + x4) = ((z2 + x4 : Nat) : Int) := wrap_i64 (by omega) (by omega)
    obtain ⟨z3, hz3⟩ : ∃ z3, z2 + x4 = z3 := ⟨_, rfl⟩
    rw [hz3] at w6
    obtain ⟨y, hy, e⟩ := tmod_small z3 n hn
    refine ⟨y, i4, q4, hy, hi4, ?_⟩
    refine run_code (b := spec_l01Below.m) h0 ⟨0, ?_⟩
    simp (maxSteps := 1000000) [exB, spec_l01Below.m, spec_l01Below.b, List.range_succ, bs_get, setAt, h1, h2, h3, h4, w1, w2, w3, w4, w5, w6, n0, n1, hs, hs2, e]
theorem spec_l01Pick.says (h : spec_l01Pick.k M) {R : List (List T)} (hR : Bytes R) (i : Nat) (q : Int) (hi : i ≤ R.length) (ss : List (List UInt8)) (h0 : 0 < ss.length) (hn : ss.length ≤ 256) :
    ∃ (s : List UInt8) (i' : Nat) (q' : Int), s ∈ ss ∧ i' ≤ R.length ∧ run M 185 [.c (.ptr 0 0 0 0), .c (.sl false 1 (ss.map fun s => [S s]))] [curD R i q] = some (.c (S s), [curD R i' q']) := by
  obtain ⟨hm, k1⟩ := h
  obtain ⟨x, i1, q1, hx, hi1, h1⟩ := spec_l01Below.says k1 hR i q hi ss.length h0 (by omega)
  refine ⟨ss[x], i1, q1, List.getElem_mem hx, hi1, ?_⟩
  refine run_code (b := spec_l01Pick.m) hm ⟨0, ?_⟩
  simp (maxSteps := 1000000) [exB, spec_l01Pick.m, spec_l01Pick.b, List.range_succ, bs_get, setAt, h1, hx]
theorem spec_l03Stamp.says (h : spec_l03Stamp.k M) {R : List (List T)} (hR : Bytes R) (i : Nat) (q : Int) (hi : i ≤ R.length) :
    ∃ (t w i' : Nat) (q' : Int), t < 12 ∧ 1 ≤ w ∧ w ≤ 2 ∧ i' ≤ R.length ∧ run M 232 [.c (.ptr 0 0 0 0)] [curD R i q] = some (.a [I t, I w], [curD R i' q']) := by
  obtain ⟨hm, k1⟩ := h
  obtain ⟨x, i1, q1, hx, hi1, h1⟩ := spec_l01Below.says k1 hR i q hi 12 (by omega) (by omega)
  obtain ⟨y, i2, q2, hy, hi2, h2⟩ := spec_l01Below.says k1 hR i1 q1 hi1 2 (by omega) (by omega)
  simp only [Int.cast_ofNat_Int] at h1 h2
  have e : IntKind.i64.wrap (1 + (y : Int)) = ((1 + y : Nat) : Int) := wrap_i64 (by omega) (by omega)
  refine ⟨x, 1 + y, i2, q2, hx, by omega, by omega, hi2, ?_⟩
  refine run_code (b := spec_l03Stamp.m) hm ⟨0, ?_⟩
  simp (maxSteps := 1000000) [exB, spec_l03Stamp.m, spec_l03Stamp.b, List.range_succ, bs_get, setAt, h1, h2, e]
def texts5 : List (List UInt8) := [[104, 101, 108, 108, 111], [104, 105, 10], [], [116, 101, 120, 116, 32, 111, 102, 32, 105, 116], [0, 255], [97, 32, 98]]
theorem spec_l05Text.says (h : spec_l05Text.k M) {R : List (List T)} (hR : Bytes R) (i : Nat) (q : Int) (hi : i ≤ R.length) :
    ∃ (s : List UInt8) (i' : Nat) (q' : Int), s.length ≤ 60 ∧ i' ≤ R.length ∧ run M 174 [.c (.ptr 0 0 0 0)] [curD R i q] = some (.c (S s), [curD R i' q']) := by
  obtain ⟨hm, k1⟩ := h
  obtain ⟨s, i1, q1, hs, hi1, h1⟩ := spec_l01Pick.says k1 hR i q hi texts5 (by decide) (by decide)
  refine ⟨s, i1, q1, ?_, hi1, ?_⟩
  · have : ∀ s ∈ texts5, s.length ≤ 60 := by decide
    exact this s hs
  · refine run_code (b := spec_l05Text.m) hm ⟨0, ?_⟩
    simp only [texts5, List.map_cons, List.map_nil, bs] at h1 ⊢
    simp (maxSteps := 1000000) [exB, spec_l05Text.m, spec_l05Text.b, List.range_succ, bs_get, setAt, h1]
end Mx

/-
  Numbers of two lists, ascending, each once: by sorting, and by putting one after another.
-/
namespace Mx
open Go
def gput (l : List Int) (x : Int) : List Int := l.filter (fun y => decide (y < x)) ++ [x] ++ l.filter (fun y => decide (x < y))
def gadd (l : List Int) (x : Int) : List Int := if x ∈ l then l else gput l x
def joinGone (a b : List Int) : List Int := (a ++ b).foldl gadd []
abbrev Asc (l : List Int) : Prop := l.Pairwise (· < ·)
theorem asc_ext : ∀ {a b : List Int}, Asc a → Asc b → (∀ x, x ∈ a ↔ x ∈ b) → a = b
  | [], [], _, _, _ => rfl
  | [], y :: b, _, _, h => absurd ((h y).2 (List.mem_cons_self ..)) (by simp)
  | x :: a, [], _, _, h => absurd ((h x).1 (List.mem_cons_self ..)) (by simp)
  | x :: a, y :: b, ha, hb, h => by
    obtain ⟨ha1, ha2⟩ := List.pairwise_cons.1 ha
    obtain ⟨hb1, hb2⟩ := List.pairwise_cons.1 hb
    have e : x = y := by
      rcases List.mem_cons.1 ((h x).1 (List.mem_cons_self ..)) with q | q
      · exact q
      · rcases List.mem_cons.1 ((h y).2 (List.mem_cons_self ..)) with q' | q'
        · exact q'.symm
        · have := ha1 y q'; have := hb1 x q; omega
    subst e
    congr 1
    refine asc_ext ha2 hb2 fun z => ⟨fun hz => ?_, fun hz => ?_⟩
    · rcases List.mem_cons.1 ((h z).1 (List.mem_cons_of_mem _ hz)) with q | q
      · have := ha1 z hz; omega
      · exact q
    · rcases List.mem_cons.1 ((h z).2 (List.mem_cons_of_mem _ hz)) with q | q
      · have := hb1 z hz; omega
      · exact q
theorem gput_mem {l : List Int} {x z : Int} : z ∈ gput l x ↔ z = x ∨ z ∈ l := by
  simp only [gput, List.mem_append, List.mem_filter, decide_eq_true_eq, List.mem_singleton]
  constructor
  · rintro ((⟨h, _⟩ | h) | ⟨h, _⟩)
    · exact .inr h
    · exact .inl h
    · exact .inr h
  · rintro (h | h)
    · exact .inl (.inr h)
    · by_cases c : z < x
      · exact .inl (.inl ⟨h, c⟩)
      · by_cases c2 : z = x
        · exact .inl (.inr c2)
        · exact .inr ⟨h, by omega⟩
theorem gput_asc {l : List Int} {x : Int} (h : Asc l) : Asc (gput l x) := by
  simp only [gput, Asc, List.pairwise_append, List.pairwise_singleton, List.mem_filter, decide_eq_true_eq, List.mem_singleton, List.mem_append]
  refine ⟨⟨h.filter _, trivial, ?_⟩, h.filter _, ?_⟩
  · rintro a ⟨_, ha⟩ b rfl; exact ha
  · rintro a (⟨_, ha⟩ | rfl) b ⟨_, hb⟩ <;> omega
theorem gadd_mem {l : List Int} {x z : Int} : z ∈ gadd l x ↔ z = x ∨ z ∈ l := by
  unfold gadd; split
  · rename_i h
    constructor
    · exact .inr
    · rintro (rfl | q)
      · exact h
      · exact q
  · exact gput_mem
theorem gadd_asc {l : List Int} {x : Int} (h : Asc l) : Asc (gadd l x) := by
  unfold gadd; split
  · exact h
  · exact gput_asc h
theorem gfold_mem : ∀ (l acc : List Int) (z : Int), z ∈ l.foldl gadd acc ↔ z ∈ l ∨ z ∈ acc
  | [], acc, z => by simp
  | x :: l, acc, z => by
    simp only [List.foldl_cons, gfold_mem l, gadd_mem, List.mem_cons]
    constructor
    · rintro (h | h | h)
      · exact .inl (.inr h)
      · exact .inl (.inl h)
      · exact .inr h
    · rintro ((h | h) | h)
      · exact .inr (.inl h)
      · exact .inl h
      · exact .inr (.inr h)
theorem gfold_asc : ∀ (l acc : List Int), Asc acc → Asc (l.foldl gadd acc)
  | [], acc, h => h
  | x :: l, acc, h => gfold_asc l _ (gadd_asc h)
theorem joinGone_asc (a b : List Int) : Asc (joinGone a b) := gfold_asc _ _ List.Pairwise.nil
theorem joinGone_mem (a b : List Int) (z : Int) : z ∈ joinGone a b ↔ z ∈ a ∨ z ∈ b := by unfold joinGone; rw [gfold_mem]; simp
theorem gadd_len (l : List Int) (x : Int) : (gadd l x).length ≤ l.length + 1 := by
  unfold gadd; split
  · omega
  · simp only [gput, List.length_append, List.length_singleton]
    have : ∀ l : List Int, (l.filter fun y => decide (y < x)).length + (l.filter fun y => decide (x < y)).length ≤ l.length := by
      intro l
      induction l with
      | nil => simp
      | cons y l ih =>
        simp only [List.filter_cons]
        by_cases h1 : y < x
        · have h2 : ¬ x < y := by omega
          simp [h1, h2]; omega
        · by_cases h2 : x < y
          · simp [h1, h2]; omega
          · simp [h1, h2]; omega
    have := this l
    omega
theorem gfold_len : ∀ (l acc : List Int), (l.foldl gadd acc).length ≤ l.length + acc.length
  | [], acc => by simp
  | x :: l, acc => by
    have h1 := gfold_len l (gadd acc x)
    have h2 := gadd_len acc x
    simp only [List.foldl_cons, List.length_cons]; omega
/-- runs of equal numbers become one -/
def dedup : List Int → List Int
  | [] => []
  | x :: l => x :: (go x l)
where go : Int → List Int → List Int
  | _, [] => []
  | p, x :: l => if x = p then go x l else x :: go x l
theorem dedup_go_mem : ∀ (l : List Int) (p z : Int), z ∈ dedup.go p l → z ∈ l
  | [], p, z, h => by simp [dedup.go] at h
  | x :: l, p, z, h => by
    simp only [dedup.go] at h
    split at h
    · exact List.mem_cons_of_mem _ (dedup_go_mem l x z h)
    · rcases List.mem_cons.1 h with rfl | h
      · exact List.mem_cons_self ..
      · exact List.mem_cons_of_mem _ (dedup_go_mem l x z h)
theorem mem_dedup_go : ∀ (l : List Int) (p z : Int), z ∈ l → z = p ∨ z ∈ dedup.go p l
  | [], p, z, h => by simp at h
  | x :: l, p, z, h => by
    simp only [dedup.go]
    split
    · rename_i e
      subst e
      rcases List.mem_cons.1 h with q | q
      · exact .inl q
      · exact mem_dedup_go l x z q
    · rcases List.mem_cons.1 h with q | q
      · exact .inr (by rw [q]; exact List.mem_cons_self ..)
      · rcases mem_dedup_go l x z q with q | q
        · exact .inr (by rw [q]; exact List.mem_cons_self ..)
        · exact .inr (List.mem_cons_of_mem _ q)
theorem dedup_go_asc : ∀ (l : List Int) (p : Int), l.Pairwise (· ≤ ·) → (∀ z ∈ l, p ≤ z) → Asc (dedup.go p l) ∧ ∀ z ∈ dedup.go p l, p < z
  | [], p, _, _ => by simp [dedup.go]
  | x :: l, p, h, hp => by
    obtain ⟨h1, h2⟩ := List.pairwise_cons.1 h
    have hx := hp x (List.mem_cons_self ..)
    obtain ⟨k1, k2⟩ := dedup_go_asc l x h2 h1
    simp only [dedup.go]
    split
    · rename_i e; exact ⟨k1, fun z hz => by have := k2 z hz; omega⟩
    · rename_i e
      refine ⟨List.pairwise_cons.2 ⟨k2, k1⟩, fun z hz => ?_⟩
      rcases List.mem_cons.1 hz with rfl | hz
      · omega
      · have := k2 z hz; omega
theorem dedup_asc {l : List Int} (h : l.Pairwise (· ≤ ·)) : Asc (dedup l) := by
  cases l with
  | nil => exact List.Pairwise.nil
  | cons x l =>
    obtain ⟨h1, h2⟩ := List.pairwise_cons.1 h
    obtain ⟨k1, k2⟩ := dedup_go_asc l x h2 h1
    exact List.pairwise_cons.2 ⟨k2, k1⟩
theorem dedup_mem {l : List Int} {z : Int} : z ∈ dedup l ↔ z ∈ l := by
  cases l with
  | nil => simp [dedup]
  | cons x l =>
    simp only [dedup, List.mem_cons]
    constructor
    · rintro (h | h)
      · exact .inl h
      · exact .inr (dedup_go_mem l x z h)
    · rintro (h | h)
      · exact .inl h
      · exact mem_dedup_go l x z h
/-- the kit's word for it -/
theorem compact_dedup (l : List Int) : Lib.compact l = dedup l := by
  have key : ∀ (d : Array Int) (m : Nat) (l : List Int) (p : Int), 0 < m → m + l.length = d.size → d.toList.drop m = l → d[m - 1]! = p → ((List.range' m l.length).filter (Lib.keeps d)).map (d[·]!) = dedup.go p l := by
    intro d m l
    induction l generalizing m with
    | nil => intro p _ _ _ _; rfl
    | cons x l ih =>
      intro p hm hl hd hp
      have hlt : m < d.size := by simp at hl; omega
      have hx : d[m]! = x := by
        rw [getElem!_pos d m hlt]
        have := congrArg (·[0]?) hd
        simpa [hlt] using this
      have ih' := ih (m + 1) x (by omega) (by simp at hl; omega) (by rw [← List.tail_drop, hd]; rfl) (by simpa using hx)
      simp only [List.length_cons, List.range'_succ, List.filter_cons, dedup.go]
      by_cases e : x = p
      · have hk : Lib.keeps d m = false := Lib.keeps_neg hm (by rw [hx, hp, e])
        rw [if_pos e, hk]; simpa using ih'
      · have hk : Lib.keeps d m = true := Lib.keeps_pos (by rw [hx, hp]; exact e)
        rw [if_neg e, hk]; simp only [if_true, List.map_cons, hx, ih']
  cases l with
  | nil => rfl
  | cons x l =>
    have hk : Lib.keeps (x :: l).toArray 0 = true := Lib.keeps_lt_one _ 0 (by omega)
    unfold Lib.compact Lib.compactUpTo
    rw [List.range_eq_range', List.length_cons, List.range'_succ, List.filter_cons, hk]
    simp only [if_true, List.map_cons, dedup]
    congr 1
    exact key (x :: l).toArray 1 l x (by omega) (by simp; omega) (by simp) (by simp)
theorem compact_len (l : List Int) : (Lib.compact l).length ≤ l.length := by
  unfold Lib.compact Lib.compactUpTo
  rw [List.length_map]
  refine Nat.le_trans (List.length_filter_le _ _) ?_
  simp
theorem joinGone_sort (a b : List Int) : Lib.compact (sortI (a ++ b)) = joinGone a b := by
  rw [compact_dedup]
  have hs : (sortI (a ++ b)).Pairwise (· ≤ ·) := by
    have := List.pairwise_mergeSort (le := fun x y : Int => decide (x ≤ y)) (fun a b c h1 h2 => by simp only [decide_eq_true_eq] at *; omega) (fun a b => by simp only [Bool.or_eq_true, decide_eq_true_eq]; omega) (a ++ b)
    exact this.imp fun h => by simpa using h
  refine asc_ext (dedup_asc hs) (joinGone_asc a b) fun z => ?_
  rw [dedup_mem, joinGone_mem]
  simp [sortI]
end Mx

/-
  What copyInts answers.
-/
namespace Mx
open Go
variable {M : Nat → Option Body}
theorem impl_copyInts.says (h : impl_copyInts.k M) (l : List Int) (hx : l.length ≤ 1048576) : run M 134 [.c (ints l)] [] = some (.c (.sl true 1 (irow l)), []) := by
  have h1 : l.length ≤ 4294967296 := by omega
  refine run_code (b := impl_copyInts.m) h ⟨0, ?_⟩
  simp [exB, impl_copyInts.m, impl_copyInts.b, List.range_succ, List.take_of_length_le, h1]
end Mx

/-
  What within answers.
-/
namespace Mx
open Go
variable {M : Nat → Option Body}
theorem impl_within.says (h : impl_within.k M) (n a b : Int) : run M 101 [.c (I n), .c (I a), .c (I b)] [] = some (.c (.bool (decide (a ≤ n) && decide (n ≤ b))), []) := by
  refine run_code (b := impl_within.m) h ⟨0, ?_⟩
  by_cases h : a ≤ n
  · have h' : n ≥ a := h
    simp [exB, impl_within.m, impl_within.b, List.range_succ, h]
  · have h' : ¬ n ≥ a := h
    simp [exB, impl_within.m, impl_within.b, List.range_succ, h]
theorem spec_l01In.says (h : spec_l01In.k M) (n a b : Int) : run M 98 [.c (I n), .c (I a), .c (I b)] [] = some (.c (.bool (decide (a ≤ n) && decide (n ≤ b))), []) := by
  refine run_code (b := spec_l01In.m) h ⟨0, ?_⟩
  by_cases h : a ≤ n
  · have h' : n ≥ a := h
    simp [exB, spec_l01In.m, spec_l01In.b, List.range_succ, h]
  · have h' : ¬ n ≥ a := h
    simp [exB, spec_l01In.m, spec_l01In.b, List.range_succ, h]
end Mx

/-
  Numbers in bytes: VarText, ReadVar; short texts.
-/
namespace Mx
open Go
variable {M : Nat → Option Body}
/-- the bytes ahead of the last, and the last -/
def varP (n : Nat) : List UInt8 × Nat := if n > 127 then let r := varP (n / 128); (UInt8.ofNat (n % 128 + 128) :: r.1, r.2) else ([], n)
termination_by n
decreasing_by omega
theorem varP_low {n : Nat} (h : ¬ n > 127) : varP n = ([], n) := by rw [varP, if_neg h]
theorem varP_high {n : Nat} (h : n > 127) : varP n = (UInt8.ofNat (n % 128 + 128) :: (varP (n / 128)).1, (varP (n / 128)).2) := by rw [varP, if_pos h]
def varT (n : Nat) : List UInt8 := (varP n).1 ++ [UInt8.ofNat (varP n).2]
theorem varP_len : ∀ (k n : Nat), n < 128 ^ k → (varP n).1.length ≤ k := by
  intro k
  induction k with
  | zero => intro n h; have : n = 0 := by simpa using h
            subst this; rw [varP_low (by omega)]; simp
  | succ k ih =>
    intro n h
    by_cases hc : n > 127
    · rw [varP_high hc]
      have := ih (n / 128) (by rw [Nat.pow_succ] at h; omega)
      simp; omega
    · rw [varP_low hc]; simp
theorem varT_len {n : Nat} (h : n ≤ 9223372036854775807) : (varT n).length ≤ 10 := by
  have := varP_len 9 n (by omega)
  simp [varT]; omega

def spV (a b c : Nat) (s : Nat × List UInt8) (x : Nat × Nat) : St := { t := [(0, .c (I s.1)), (b, .c (.row a x.1 0 s.2.length))], o := [(a, ⟨x.1, 1, true, false, brow s.2⟩)], n := x.2 }
def vInv (s : Nat × List UInt8) : Prop := s.1 ≤ 9223372036854775807 ∧ ∃ k, s.1 < 128 ^ k ∧ s.2.length + k ≤ 20
theorem vInv_step {n : Nat} {acc : List UInt8} (h : vInv (n, acc)) (hc : n > 127) (b : UInt8) : vInv (n / 128, acc ++ [b]) := by
  obtain ⟨h1, k, h2, h3⟩ := h
  simp only at h1 h2 h3
  cases k with
  | zero => simp at h2; omega
  | succ k => exact ⟨by simp only; omega, k, by simp only; rw [Nat.pow_succ] at h2; omega, by simp; omega⟩
theorem spec_l01Var.says (h : spec_l01Var.k M) (n : Nat) (hn : n ≤ 9223372036854775807) : run M 99 [.c (I n)] [] = some (.c (S (varT n)), []) := by
  refine run_code (b := spec_l01Var.m) h ⟨n + 1, ?_⟩
  obtain ⟨g, hr⟩ := loop_all (f := exC (run M) (n + 1) spec_l01Var.l0) (spV 4 3 6) vInv (fun s => s.1) (fun s => (s.2 ++ (varP s.1).1, (varP s.1).2))
    (fun q (m : Nat × Nat) => (.exit 0, { t := [(0, .c (I q.2)), (3, .c (.row 4 m.1 0 q.1.length)), (6, .c (.bool false))], o := [(4, ⟨m.1, 1, true, false, brow q.1⟩)], n := m.2 }))
    (by
      rintro ⟨i, acc⟩ ⟨v, x⟩ hi
      by_cases hc : i > 127
      · left
        have hb := hi.1
        obtain ⟨k, hk1, hk2⟩ := hi.2
        simp only at hb hk1 hk2
        have e1 : IntKind.i64.wrap ((i : Int).tmod 128 + 128) = ((i % 128 + 128 : Nat) : Int) := by
          rw [Int.tmod_eq_emod_of_nonneg (by omega), wrap_i64 (by omega) (by omega)]; omega
        have e2 : IntKind.i64.wrap ((i : Int) / 128) = (i : Int) / 128 := wrap_i64 (by omega) (by omega)
        have e3 : IntKind.u8.wrap ((i % 128 + 128 : Nat) : Int) = ((UInt8.ofNat (i % 128 + 128)).toNat : Int) := by rw [ofNat_toNat, wrap_u8]
        have hc' : (127 : Int) < i := by omega
        have e4 : acc.length + 1 ≤ 4294967296 := by omega
        generalize hb : UInt8.ofNat (i % 128 + 128) = b at e3
        obtain ⟨y, hy⟩ : ∃ y, exC (run M) (n + 1) spec_l01Var.l0 (spV 4 3 6 (i, acc) (v, x)) = some (.normal, spV 4 3 6 (i / 128, acc ++ [b]) y) := by
          simp only [Prod.exists]
          simp only [spV, spec_l01Var.l0]
          simp only [Int.natCast_add, Int.natCast_emod, Int.cast_ofNat_Int] at e1 e3
          simp [hc', e1, e2, e3, e4, brow1, List.take_of_length_le]
        refine ⟨(i / 128, acc ++ [b]), y, hy, vInv_step hi hc b, by simp only; omega, ?_⟩
        simp only [varP_high hc, hb, List.append_assoc, List.cons_append, List.nil_append]
      · right
        have hc' : ¬ (127 : Int) < i := by omega
        refine ⟨(v, x + 32), ?_, by simp⟩
        simp only [varP_low hc, List.append_nil]
        simp [spV, spec_l01Var.l0, hc'])
    (n + 1) (n, []) ⟨hn, 9, by simp only; omega, by simp⟩ (by simp)
  have hl := varP_len 9 n (by omega)
  have e3 : IntKind.u8.wrap ((varP n).2 : Int) = ((UInt8.ofNat (varP n).2).toNat : Int) := by rw [ofNat_toNat, wrap_u8]
  have e4 : (varP n).1.length + 1 ≤ 4294967296 := by omega
  simp only [List.nil_append] at hr
  simp [spV, -List.nil_append] at hr
  generalize hb : UInt8.ofNat (varP n).2 = b at e3
  have hv : varT n = (varP n).1 ++ [b] := by rw [← hb]; rfl
  rw [hv]
  simp [exB, spec_l01Var.m, spec_l01Var.b, List.range_succ, hr, e3, e4, brow1, List.take_of_length_le]

theorem or_and (n : Nat) (h : n < 9223372036854775808) : orI .i64 (andI .i64 n 127) 128 = ((n % 128 + 128 : Nat) : Int) := by
  have e1 := and_i64 n 127 h (by omega)
  have e2 := or_i64 (n % 128) 128 (by omega) (by omega)
  rw [and_127] at e1
  rw [or_128 _ (by omega)] at e2
  rw [show (127 : Int) = ((127 : Nat) : Int) from rfl, e1]
  exact e2
theorem impl_VarText.says (h : impl_VarText.k M) (n : Nat) (hn : n ≤ 9223372036854775807) : run M 230 [.c (I n)] [] = some (.tup [.c (S (if n ≤ 1000000000 then varT n else [])), .c (.bool (decide (n ≤ 1000000000)))], []) := by
  have hw := impl_within.says h.2 n 0 1000000000
  refine run_code (b := impl_VarText.m) h.1 ⟨n + 1, ?_⟩
  by_cases hm : n ≤ 1000000000
  rotate_left
  · have hm' : ¬ (n : Int) ≤ 1000000000 := by omega
    simp [hm'] at hw
    simp [exB, impl_VarText.m, impl_VarText.b, List.range_succ, hw, hm]
  have hm' : (n : Int) ≤ 1000000000 := by omega
  simp [hm'] at hw
  obtain ⟨g, hr⟩ := loop_all (f := exC (run M) (n + 1) impl_VarText.l0) (spV 8 4 10) vInv (fun s => s.1) (fun s => (s.2 ++ (varP s.1).1, (varP s.1).2))
    (fun q (m : Nat × Nat) => (.exit 0, { t := [(0, .c (I q.2)), (4, .c (.row 8 m.1 0 q.1.length)), (10, .c (.bool false))], o := [(8, ⟨m.1, 1, true, false, brow q.1⟩)], n := m.2 }))
    (by
      rintro ⟨i, acc⟩ ⟨v, x⟩ hi
      by_cases hc : i > 127
      · left
        have hb := hi.1
        obtain ⟨k, hk1, hk2⟩ := hi.2
        simp only at hb hk1 hk2
        have e1 := or_and i (by omega)
        have e2 : (i : Int).fdiv 128 = ((i / 128 : Nat) : Int) := by
          rw [Int.fdiv_eq_ediv_of_nonneg _ (by omega)]; omega
        have e3 : IntKind.u8.wrap ((i % 128 + 128 : Nat) : Int) = ((UInt8.ofNat (i % 128 + 128)).toNat : Int) := by rw [ofNat_toNat, wrap_u8]
        have hc' : (127 : Int) < i := by omega
        have e4 : acc.length + 1 ≤ 4294967296 := by omega
        generalize hb : UInt8.ofNat (i % 128 + 128) = b at e3
        obtain ⟨y, hy⟩ : ∃ y, exC (run M) (n + 1) impl_VarText.l0 (spV 8 4 10 (i, acc) (v, x)) = some (.normal, spV 8 4 10 (i / 128, acc ++ [b]) y) := by
          simp only [Prod.exists]
          simp only [spV, impl_VarText.l0]
          simp only [Int.natCast_add, Int.natCast_emod, Int.cast_ofNat_Int] at e1 e3
          simp [hc', e1, e2, e3, e4, brow1, List.take_of_length_le, IntKind.bits]
        refine ⟨(i / 128, acc ++ [b]), y, hy, vInv_step hi hc b, by simp only; omega, ?_⟩
        simp only [varP_high hc, hb, List.append_assoc, List.cons_append, List.nil_append]
      · right
        have hc' : ¬ (127 : Int) < i := by omega
        refine ⟨(v, x + 32), ?_, by simp⟩
        simp only [varP_low hc, List.append_nil]
        simp [spV, impl_VarText.l0, hc'])
    (n + 1) (n, []) ⟨hn, 9, by simp only; omega, by simp⟩ (by simp)
  have hl := varP_len 9 n (by omega)
  have e3 : IntKind.u8.wrap ((varP n).2 : Int) = ((UInt8.ofNat (varP n).2).toNat : Int) := by rw [ofNat_toNat, wrap_u8]
  have e4 : (varP n).1.length + 1 ≤ 4294967296 := by omega
  simp only [List.nil_append] at hr
  simp [spV, -List.nil_append] at hr
  generalize hb : UInt8.ofNat (varP n).2 = b at e3
  have hv : varT n = (varP n).1 ++ [b] := by rw [← hb]; rfl
  rw [hv]
  simp [exB, impl_VarText.m, impl_VarText.b, List.range_succ, hr, hw, hm, e3, e4, brow1, List.take_of_length_le]
/-- its length, and it -/
def shortT (l : List UInt8) : List UInt8 := varT l.length ++ l
theorem impl_ShortText.says (h : impl_ShortText.k M) (l : List UInt8) (hl : l.length ≤ 4611686018427387904) : run M 205 [.c (S l)] [] = some (.tup [.c (S (if 20000 < l.length then [] else shortT l)), .c (.bool (!decide (20000 < l.length)))], []) := by
  have h1 := impl_VarText.says h.2 l.length (by omega)
  refine run_code (b := impl_ShortText.m) h.1 ⟨0, ?_⟩
  by_cases c : 20000 < l.length
  · have c' : 20000 < (l.length : Int) := by omega
    simp [exB, impl_ShortText.m, impl_ShortText.b, List.range_succ, c, c']
  · have c' : ¬ 20000 < (l.length : Int) := by omega
    have c2 : l.length ≤ 1000000000 := by omega
    have hv := varT_len (n := l.length) (by omega)
    simp only [c2, if_true, decide_true] at h1
    simp (disch := (first | omega | (simp; done) | (simp; omega))) [exB, impl_ShortText.m, impl_ShortText.b, List.range_succ, c, c', h1, shortT, str_add]
theorem impl_short.says (h : impl_short.k M) (l : List UInt8) (hl : l.length ≤ 20000) : run M 102 [.c (S l)] [] = some (.c (S (shortT l)), []) := by
  have h1 := impl_ShortText.says h.2 l (by omega)
  have c : ¬ 20000 < l.length := by omega
  refine run_code (b := impl_short.m) h.1 ⟨0, ?_⟩
  simp only [c, if_false] at h1
  simp [exB, impl_short.m, impl_short.b, List.range_succ, h1]
end Mx

/-
  The laws' plumbing at any type: what slices weigh.
-/
namespace Mx
open Go
variable {M : Nat → Option Body}
def szLb : C := .seq (.reg [⟨some 4, .mv (.k (.int .i64 0)), none⟩] [0, 1] [])
  (.seq (.reg [⟨some 5, .mv (.t 1), none⟩,
    ⟨some 6, .mv (.t 0), none⟩,
    ⟨some 7, .len (.t 6), none⟩,
    ⟨some 8, .bin .sub (.t 5) (.t 7), none⟩,
    ⟨some 1, .mv (.t 8), none⟩] [1] [])
  (.seq (.seq (.reg [⟨some 9, .mv (.t 1), none⟩,
    ⟨some 10, .bin .lss (.t 9) (.k (.int .i64 0)), none⟩] [1, 10] [])
  (.cond (.t 10) (.seq (.reg [⟨some 4, .mv (.k (.int .i64 (-1))), none⟩] [4] [])
  (.ret)) (.skip)))
  (.seq (.reg [⟨some 11, .mv (.t 1), none⟩,
    ⟨some 4, .mv (.t 11), none⟩] [4] [])
  (.ret))))
def szLm : Fn := { np := 2, body := szLb, res := [.tmp 4] }
theorem szL_says {F n : Nat} (h : M F = some (.code szLm)) {rows : List (List T)} (hl : rows.length ≤ 9223372036854775807) (k : Int) (hk : 0 ≤ k) (hk' : k ≤ 9223372036854775807) :
    run M F [.c (.sl false n rows), .c (I k)] [] = some (.c (I (if k < rows.length then -1 else k - rows.length)), []) := by
  refine run_code (b := szLm) h ⟨0, ?_⟩
  have e5 : IntKind.i64.wrap (k - (rows.length : Int)) = k - (rows.length : Int) := wrap_i64 (by omega) (by omega)
  by_cases hc : k < rows.length
  · have h1 : k - (rows.length : Int) < 0 := by omega
    simp [exB, szLm, szLb, List.range_succ, e5, h1, hc]
  · have h1 : ¬ k - (rows.length : Int) < 0 := by omega
    simp [exB, szLm, szLb, List.range_succ, e5, h1, hc]

theorem call_sz {n : Nat} {o : List (Nat × Ob)} {f : Nat} {r : List T} {k m : Int} (hr : r.all closedT = true) (h : run M f [.a r, .c (I k)] [] = some (.c (I m), [])) :
    doCall (run M) n o f [.a r, .c (I k)] [] [] = some (.c (I m), []) := by
  obtain ⟨h1, h2, _⟩ := im_closedL (o := o) hr
  simp [doCall, args, lendsC, V.im, V.wr, h1, h2, h, lentBack, back, backV, backT]
def szSl (n f : Nat) : C := .seq (.seq (.reg [⟨some 12, .mv (.t 5), none⟩,
    ⟨some 13, .mv (.t 0), none⟩,
    ⟨some 14, .len (.t 13), none⟩,
    ⟨some 15, .bin .lss (.t 12) (.t 14), none⟩] [0, 1, 5, 15] [])
  (.cond (.t 15) (.skip) (.exit 0)))
  (.seq (.block 1 (.seq (.reg [⟨some 18, .mv (.t 0), none⟩,
    ⟨some 19, .mv (.t 5), none⟩,
    ⟨some 20, .iaddr n (.t 18) (.t 19), none⟩,
    ⟨some 21, .load true n (.t 20), none⟩,
    ⟨some 22, .mv (.t 1), none⟩,
    ⟨some 23, .call f [.t 21, .t 22] [] [], none⟩,
    ⟨some 1, .mv (.t 23), none⟩] [0, 1, 5] [])
  (.seq (.reg [⟨some 24, .mv (.t 1), none⟩,
    ⟨some 25, .bin .lss (.t 24) (.k (.int .i64 0)), none⟩] [0, 1, 5, 25] [])
  (.cond (.t 25) (.seq (.reg [⟨some 4, .mv (.k (.int .i64 (-1))), none⟩] [4] [])
  (.ret)) (.skip)))))
  (.reg [⟨some 16, .mv (.t 5), none⟩,
    ⟨some 17, .bin .add (.t 16) (.k (.int .i64 1)), none⟩,
    ⟨some 5, .mv (.t 17), none⟩] [0, 1, 5] []))
def szSb (n f : Nat) : C := .seq (.reg [⟨some 4, .mv (.k (.int .i64 0)), none⟩] [0, 1] [])
  (.seq (.reg [⟨some 6, .mv (.t 1), none⟩,
    ⟨some 7, .mv (.t 0), none⟩,
    ⟨some 8, .len (.t 7), none⟩,
    ⟨some 9, .bin .sub (.t 6) (.t 8), none⟩,
    ⟨some 1, .mv (.t 9), none⟩] [0, 1] [])
  (.seq (.seq (.reg [⟨some 10, .mv (.t 1), none⟩,
    ⟨some 11, .bin .lss (.t 10) (.k (.int .i64 0)), none⟩] [0, 1, 11] [])
  (.cond (.t 11) (.seq (.reg [⟨some 4, .mv (.k (.int .i64 (-1))), none⟩] [4] [])
  (.ret)) (.skip)))
  (.seq (.seq (.reg [⟨some 5, .mv (.k (.int .i64 0)), none⟩] [0, 1, 5] [])
  (.block 0 (.loop (szSl n f))))
  (.seq (.reg [⟨some 26, .mv (.t 1), none⟩,
    ⟨some 4, .mv (.t 26), none⟩] [4] [])
  (.ret)))))
def szSm (n f : Nat) : Fn := { np := 2, body := szSb n f, res := [.tmp 4] }
def szSst (n : Nat) (rows : List (List T)) (s : Nat × Nat) (x : Nat) : St := { t := [(0, .c (.sl false n rows)), (1, .c (I s.2)), (5, .c (I s.1))], o := [], n := x }
/-- what is left of k behind these weights -/
def leftS (k : Nat) : List Nat → Option Nat
  | [] => some k
  | w :: ws => if k < w then none else leftS (k - w) ws
theorem leftS_eq : ∀ (ws : List Nat) (k : Nat), leftS k ws = if k < ws.sum then none else some (k - ws.sum)
  | [], k => by simp [leftS]
  | w :: ws, k => by
    have hs : (w :: ws).sum = w + ws.sum := List.sum_cons
    rw [leftS, leftS_eq ws]
    by_cases h : k < w
    · rw [if_pos h, if_pos (by rw [hs]; omega)]
    · rw [if_neg h]
      by_cases h2 : k - w < ws.sum
      · rw [if_pos h2, if_pos (by rw [hs]; omega)]
      · rw [if_neg h2, if_neg (by rw [hs]; omega)]; congr 1; rw [hs]; omega
def szFin (n : Nat) (rows : List (List T)) (q : Option Nat) (m : Nat) : Out × St := match q with
  | none => (.ret, { t := [(4, .c (I (-1)))], o := [], n := m })
  | some k => (.exit 0, { t := [(0, .c (.sl false n rows)), (1, .c (I k)), (5, .c (I rows.length)), (15, .c (.bool false))], o := [], n := m })
theorem szS_says {F n f : Nat} (h : M F = some (.code (szSm n f))) {rows : List (List T)} (hl : rows.length ≤ 9223372036854775807) (wt : List T → Nat)
    (he : ∀ r ∈ rows, r.length = n ∧ r.all closedT = true ∧ ∀ k : Nat, k ≤ 1048576 → run M f [.a r, .c (I k)] [] = some (.c (I (if k < wt r then -1 else (k : Int) - wt r)), [])) (k : Nat) (hk : k ≤ 1048576) :
    run M F [.c (.sl false n rows), .c (I k)] [] = some (.c (I (if k < rows.length + (rows.map wt).sum then -1 else (k : Int) - (rows.length + (rows.map wt).sum : Nat))), []) := by
  refine run_code (b := szSm n f) h ⟨rows.length + 1, ?_⟩
  have e0 : IntKind.i64.wrap ((k : Int) - (rows.length : Int)) = (k : Int) - (rows.length : Int) := wrap_i64 (by omega) (by omega)
  by_cases hc : k < rows.length
  · have h1 : (k : Int) - (rows.length : Int) < 0 := by omega
    have h2 : k < rows.length + (rows.map wt).sum := by omega
    rw [if_pos h2]
    simp [exB, szSm, szSb, List.range_succ, e0, h1]
  have h1 : ¬ (k : Int) - (rows.length : Int) < 0 := by omega
  obtain ⟨g, hr⟩ := loop_all (f := exC (run M) (rows.length + 1) (szSl n f)) (szSst n rows) (fun s => s.1 ≤ rows.length ∧ s.2 ≤ 1048576) (fun s => rows.length - s.1) (fun s => leftS s.2 ((rows.drop s.1).map wt)) (szFin n rows)
    (by
      rintro ⟨i, q⟩ x ⟨p1, p2⟩
      simp only at p1 p2
      by_cases hlt : i < rows.length
      · have e5 : IntKind.i64.wrap ((i : Int) + 1) = (i : Int) + 1 := wrap_i64 (by omega) (by omega)
        obtain ⟨k1, k2, k3⟩ := he rows[i] (List.getElem_mem hlt)
        have hcall := fun nn => call_sz (n := nn) (o := []) k2 (k3 q p2)
        have h6 : (List.take n rows[i]) = rows[i] := List.take_of_length_le (by omega)
        have hd : leftS q ((rows.drop i).map wt) = if q < wt rows[i] then none else leftS (q - wt rows[i]) ((rows.drop (i + 1)).map wt) := by
          rw [List.drop_eq_getElem_cons hlt, List.map_cons, leftS]
        simp only [hd]
        by_cases c : q < wt rows[i]
        · right
          have c' : (q : Int) < wt rows[i] := by omega
          simp only [if_pos c] at hcall
          rw [if_pos c]
          obtain ⟨y, hy⟩ : ∃ y, exC (run M) (rows.length + 1) (szSl n f) (szSst n rows (i, q) x) = some (szFin n rows none y) := by
            simp [szSst, szSl, szFin, hlt, k1, hcall, h6, -doCall]
          exact ⟨y, hy, by simp [szFin]⟩
        · left
          simp only [if_neg c] at hcall
          rw [if_neg c]
          have c2 : ¬ (q : Int) - wt rows[i] < 0 := by omega
          have c3 : (q : Int) - wt rows[i] = ((q - wt rows[i] : Nat) : Int) := by omega
          rw [c3] at hcall c2
          obtain ⟨y, hy⟩ : ∃ y, exC (run M) (rows.length + 1) (szSl n f) (szSst n rows (i, q) x) = some (.normal, szSst n rows (i + 1, q - wt rows[i]) y) := by
            simp [szSst, szSl, hlt, e5, k1, hcall, h6, c2, -doCall]
          exact ⟨(i + 1, q - wt rows[i]), y, hy, ⟨hlt, by simp only; omega⟩, by simp only; omega, rfl⟩
      · have : i = rows.length := by omega
        subst this
        right
        exact ⟨x + 64, by simp [szSst, szSl, szFin, leftS], by simp [szFin, leftS]⟩)
    (rows.length + 1) (0, k - rows.length) ⟨Nat.zero_le _, by simp only; omega⟩ (by simp)
  simp only [List.drop_zero, leftS_eq] at hr
  have h3 : (k : Int) - (rows.length : Int) = ((k - rows.length : Nat) : Int) := by omega
  rw [h3] at e0 h1
  have e0' : IntKind.i64.wrap ((k : Int) - (rows.length : Int)) = ((k - rows.length : Nat) : Int) := by rw [h3]; exact e0
  by_cases c : k < rows.length + (rows.map wt).sum
  · rw [if_pos (show k - rows.length < (rows.map wt).sum by omega)] at hr
    rw [if_pos c]
    simp [szSst, szFin] at hr
    simp [exB, szSm, szSb, List.range_succ, e0', hr, h1]
  · rw [if_neg (show ¬ k - rows.length < (rows.map wt).sum by omega)] at hr
    rw [if_neg c]
    simp [szSst, szFin] at hr
    have h4 : ((k - rows.length - (rows.map wt).sum : Nat) : Int) = (k : Int) - (rows.length + (rows.map wt).sum : Nat) := by omega
    simp [exB, szSm, szSb, List.range_succ, e0', hr, h1]
    omega
end Mx

/-
  Mails and boxes: as trees; what is laid over, weighed, held against.
-/
namespace Mx
open Go
variable {M : Nat → Option Body}
structure Reg where
  val : Int
  time : Int
  who : Int
structure Mail where
  gid : Int
  uid : Int
  flags : List Reg
  text : List UInt8
structure Box where
  gid : Int
  name : List UInt8
  time : Int
  who : Int
  next : Int
  mails : List Mail
  gone : List Int
abbrev encReg (r : Reg) : List T := [I r.val, I r.time, I r.who]
abbrev regs (l : List Reg) : T := .sl false 3 (l.map encReg)
abbrev encMail (m : Mail) : List T := [I m.gid, I m.uid, regs m.flags, S m.text]
abbrev mails (l : List Mail) : T := .sl false 4 (l.map encMail)
abbrev encBox (b : Box) : List T := [I b.gid, S b.name, I b.time, I b.who, I b.next, mails b.mails, ints b.gone]
/-- as their own -/
abbrev encMailO (m : Mail) : List T := [I m.gid, I m.uid, .sl true 3 (m.flags.map encReg), S m.text]
abbrev encBoxO (b : Box) : List T := [I b.gid, S b.name, I b.time, I b.who, I b.next, .sl true 4 (b.mails.map encMail), .sl true 1 (irow b.gone)]

/-! ## types -/
abbrev ctReg : List Ct := [.int .i64, .int .i64, .int .i64]
abbrev ctMail : List Ct := [.int .i64, .int .i64, .sl ctReg, .str]
abbrev ctBox : List Ct := [.int .i64, .str, .int .i64, .int .i64, .int .i64, .sl ctMail, .sl [.int .i64]]
theorem has_list {α : Type} {row : List Ct} (enc : α → List T) (Q : α → Prop) (hx : ∀ r, HasL row r → ∃ x, r = enc x ∧ Q x) {u : T} (h : Has (.sl row) u) :
    ∃ l : List α, u = .sl false row.length (l.map enc) ∧ l.length ≤ maxLen ∧ ∀ x ∈ l, Q x := by
  cases h with | sl _ rows hl h1 h2 =>
  have : ∀ rows : List (List T), (∀ r ∈ rows, HasL row r) → ∃ l : List α, rows = l.map enc ∧ ∀ x ∈ l, Q x := by
    intro rows
    induction rows with
    | nil => intro _; exact ⟨[], rfl, fun x h => by cases h⟩
    | cons r rs ih =>
      intro hr
      obtain ⟨l, rfl, hq⟩ := ih fun r h => hr r (List.mem_cons_of_mem _ h)
      obtain ⟨x, rfl, hqx⟩ := hx r (hr r (List.mem_cons_self ..))
      exact ⟨x :: l, rfl, fun y hy => by
        rcases List.mem_cons.1 hy with rfl | hy
        · exact hqx
        · exact hq y hy⟩
  obtain ⟨l, rfl, hq⟩ := this rows fun r hr => by
    obtain ⟨i, hi⟩ := List.getElem?_of_mem hr
    exact ⟨h1 i r hi, fun j c t e1 e2 => h2 i j r c t hi e1 e2⟩
  exact ⟨l, rfl, by simpa using hl, hq⟩
theorem has_int {k : IntKind} {u : T} (h : Has (.int k) u) : ∃ n, u = .int k n := by cases h; exact ⟨_, rfl⟩
theorem has_str {u : T} (h : Has .str u) : ∃ l : List UInt8, u = S l ∧ l.length ≤ maxLen := by
  cases h with | str s hs =>
  obtain ⟨l, rfl⟩ := of_bytes s
  exact ⟨l, rfl, by simpa using hs⟩
theorem has_reg {r : List T} (h : HasL ctReg r) : ∃ x : Reg, r = encReg x ∧ True := by
  match r, h with
  | [a, b, c], h =>
    obtain ⟨x, rfl⟩ := has_int (h.2 0 _ a rfl rfl)
    obtain ⟨y, rfl⟩ := has_int (h.2 1 _ b rfl rfl)
    obtain ⟨z, rfl⟩ := has_int (h.2 2 _ c rfl rfl)
    exact ⟨⟨x, y, z⟩, rfl, trivial⟩
def MailFits (m : Mail) : Prop := m.flags.length ≤ maxLen ∧ m.text.length ≤ maxLen
theorem has_mail {r : List T} (h : HasL ctMail r) : ∃ x : Mail, r = encMail x ∧ MailFits x := by
  match r, h with
  | [a, b, c, d], h =>
    obtain ⟨x, rfl⟩ := has_int (h.2 0 _ a rfl rfl)
    obtain ⟨y, rfl⟩ := has_int (h.2 1 _ b rfl rfl)
    obtain ⟨l, rfl, hl, _⟩ := has_list encReg (fun _ => True) (fun r hr => has_reg hr) (h.2 2 _ c rfl rfl)
    obtain ⟨t, rfl, ht⟩ := has_str (h.2 3 _ d rfl rfl)
    exact ⟨⟨x, y, l, t⟩, rfl, hl, ht⟩
def BoxFits (b : Box) : Prop := b.name.length ≤ maxLen ∧ b.mails.length ≤ maxLen ∧ b.gone.length ≤ maxLen ∧ ∀ m ∈ b.mails, MailFits m
theorem has_box {r : List T} (h : HasL ctBox r) : ∃ x : Box, r = encBox x ∧ BoxFits x := by
  match r, h with
  | [a, b, c, d, e, f, g], h =>
    obtain ⟨x1, rfl⟩ := has_int (h.2 0 _ a rfl rfl)
    obtain ⟨x2, rfl, h2⟩ := has_str (h.2 1 _ b rfl rfl)
    obtain ⟨x3, rfl⟩ := has_int (h.2 2 _ c rfl rfl)
    obtain ⟨x4, rfl⟩ := has_int (h.2 3 _ d rfl rfl)
    obtain ⟨x5, rfl⟩ := has_int (h.2 4 _ e rfl rfl)
    obtain ⟨x6, rfl, h6, q6⟩ := has_list encMail MailFits (fun r hr => has_mail hr) (h.2 5 _ f rfl rfl)
    obtain ⟨x7, rfl, h7, _⟩ := has_list (fun n : Int => [I n]) (fun _ => True) (fun r hr => by
      match r, hr with
      | [a], hr => obtain ⟨n, rfl⟩ := has_int (hr.2 0 _ a rfl rfl); exact ⟨n, rfl, trivial⟩) (h.2 6 _ g rfl rfl)
    exact ⟨⟨x1, x2, x3, x4, x5, x6, x7⟩, rfl, h2, h6, h7, q6⟩

/-! ## weights -/
def wMail (m : Mail) : Nat := m.flags.length + m.text.length
def wMails (l : List Mail) : Nat := l.length + (l.map wMail).sum
def wBox (b : Box) : Nat := b.name.length + wMails b.mails + b.gone.length
theorem le_sum {α : Type} (f : α → Nat) : ∀ (l : List α) (x : α), x ∈ l → f x ≤ (l.map f).sum
  | y :: l, x, h => by
    have hs : ((y :: l).map f).sum = f y + (l.map f).sum := List.sum_cons
    rcases List.mem_cons.1 h with rfl | h
    · omega
    · have := le_sum f l x h; omega
theorem wMail_le {l : List Mail} {m : Mail} (h : m ∈ l) : wMail m ≤ wMails l := by
  have := le_sum wMail l m h
  unfold wMails; omega

theorem laws_szRegS.says (h : laws_szRegS.k M) (l : List Reg) (hl : l.length ≤ maxLen) (k : Nat) (hk : k ≤ 1048576) : run M 250 [.c (regs l), .c (I k)] [] = some (.c (I (if k < l.length then -1 else (k : Int) - l.length)), []) := by
  have hm : maxLen = 9223372036854775807 := rfl
  have := szL_says (M := M) (F := 250) (n := 3) h (rows := l.map encReg) (by simp; omega) k (by omega) (by omega)
  simpa using this
theorem laws_szMail.says (h : laws_szMail.k M) (m : Mail) (hm : MailFits m) (k : Nat) (hk : k ≤ 1048576) : run M 208 [.a (encMail m), .c (I k)] [] = some (.c (I (if k < wMail m then -1 else (k : Int) - wMail m)), []) := by
  have hx : maxLen = 9223372036854775807 := rfl
  obtain ⟨f1, f2⟩ := hm
  have h1 := laws_szRegS.says h.2 m.flags f1 k hk
  refine run_code (b := laws_szMail.m) h.1 ⟨0, ?_⟩
  unfold wMail
  by_cases c1 : k < m.flags.length
  · rw [if_pos c1] at h1
    rw [if_pos (show k < m.flags.length + m.text.length by omega)]
    simp [exB, laws_szMail.m, laws_szMail.b, List.range_succ, h1]
  · rw [if_neg c1] at h1
    have e1 : ¬ (k : Int) - m.flags.length < 0 := by omega
    have e2 : IntKind.i64.wrap ((k : Int) - m.flags.length - m.text.length) = (k : Int) - m.flags.length - m.text.length := wrap_i64 (by omega) (by omega)
    by_cases c2 : k < m.flags.length + m.text.length
    · have e3 : (k : Int) - m.flags.length - m.text.length < 0 := by omega
      rw [if_pos c2]
      simp [exB, laws_szMail.m, laws_szMail.b, List.range_succ, h1, e1, e2, e3]
    · have e3 : ¬ (k : Int) - m.flags.length - m.text.length < 0 := by omega
      rw [if_neg c2]
      have e4 : (k : Int) - (m.flags.length + m.text.length : Nat) = (k : Int) - m.flags.length - m.text.length := by omega
      rw [e4]
      simp [exB, laws_szMail.m, laws_szMail.b, List.range_succ, h1, e1, e2, e3]
theorem closed_mail (m : Mail) : (encMail m).all closedT = true := rfl
theorem closed_reg (m : Reg) : (encReg m).all closedT = true := rfl
/-- what a row of a mail weighs -/
def wRow : List T → Nat
  | [_, _, .sl _ _ rows, .str s] => rows.length + s.size
  | _ => 0
theorem wRow_mail (m : Mail) : wRow (encMail m) = wMail m := by simp [wRow, wMail]
theorem laws_szMailS.says (h : laws_szMailS.k M) (l : List Mail) (hl : l.length ≤ maxLen) (hm : ∀ m ∈ l, MailFits m) (k : Nat) (hk : k ≤ 1048576) :
    run M 107 [.c (mails l), .c (I k)] [] = some (.c (I (if k < wMails l then -1 else (k : Int) - wMails l)), []) := by
  have hx : maxLen = 9223372036854775807 := rfl
  have := szS_says (M := M) (F := 107) (n := 4) (f := 208) h.1 (rows := l.map encMail) (by simp; omega) wRow (by
    intro r hr
    obtain ⟨m, hmm, rfl⟩ := List.mem_map.1 hr
    refine ⟨rfl, rfl, fun k hk => ?_⟩
    rw [wRow_mail]
    exact laws_szMail.says h.2 m (hm m hmm) k hk) k hk
  have e : ((l.map encMail).map wRow).sum = (l.map wMail).sum := by
    rw [List.map_map]; congr 1; apply List.map_congr_left; intro m _; exact wRow_mail m
  rw [e, List.length_map] at this
  exact this
theorem laws_szBox.says (h : laws_szBox.k M) (b : Box) (hb : BoxFits b) (k : Nat) (hk : k ≤ 1048576) : run M 17 [.a (encBox b), .c (I k)] [] = some (.c (I (if k < wBox b then -1 else (k : Int) - wBox b)), []) := by
  have hx : maxLen = 9223372036854775807 := rfl
  obtain ⟨f1, f2, f3, f4⟩ := hb
  obtain ⟨h0, k1, k2⟩ := h
  refine run_code (b := laws_szBox.m) h0 ⟨0, ?_⟩
  have e1 : IntKind.i64.wrap ((k : Int) - b.name.length) = (k : Int) - b.name.length := wrap_i64 (by omega) (by omega)
  by_cases c1 : k < b.name.length
  · have d1 : (k : Int) - b.name.length < 0 := by omega
    rw [if_pos (show k < wBox b by unfold wBox; omega)]
    simp [exB, laws_szBox.m, laws_szBox.b, List.range_succ, e1, d1]
  have d1 : ¬ (k : Int) - b.name.length < 0 := by omega
  have h1 := laws_szMailS.says k1 b.mails f2 f4 (k - b.name.length) (by omega)
  rw [show ((k - b.name.length : Nat) : Int) = (k : Int) - b.name.length by omega] at h1
  by_cases c2 : k - b.name.length < wMails b.mails
  · rw [if_pos c2] at h1
    rw [if_pos (show k < wBox b by unfold wBox; omega)]
    simp [exB, laws_szBox.m, laws_szBox.b, List.range_succ, e1, d1, h1]
  rw [if_neg c2] at h1
  have d2 : ¬ (k : Int) - b.name.length - wMails b.mails < 0 := by omega
  have h2 := laws_szIntS.says k2 b.gone (by omega) ((k : Int) - b.name.length - wMails b.mails) (by omega) (by omega)
  by_cases c3 : (k : Int) - b.name.length - wMails b.mails < b.gone.length
  · rw [if_pos c3] at h2
    rw [if_pos (show k < wBox b by unfold wBox; omega)]
    simp [exB, laws_szBox.m, laws_szBox.b, List.range_succ, e1, d1, d2, h1, h2]
  · rw [if_neg c3] at h2
    have d3 : ¬ (k : Int) - b.name.length - wMails b.mails - b.gone.length < 0 := by omega
    rw [if_neg (show ¬ k < wBox b by unfold wBox; omega)]
    have e4 : (k : Int) - (wBox b : Nat) = (k : Int) - b.name.length - wMails b.mails - b.gone.length := by unfold wBox; omega
    rw [e4]
    simp [exB, laws_szBox.m, laws_szBox.b, List.range_succ, e1, d1, d2, d3, h1, h2]

/-! ## laid over -/
theorem laws_toStamp.says (h : laws_toStamp.k M) (a b : Int) : run M 109 [.a [I a, I b]] [] = some (.a [I a, I b], []) := by
  refine run_code (b := laws_toStamp.m) h ⟨0, ?_⟩
  simp [exB, laws_toStamp.m, laws_toStamp.b, List.range_succ]
theorem laws_toReg.says (h : laws_toReg.k M) (r : Reg) : run M 288 [.a (encReg r)] [] = some (.a (encReg r), []) := by
  have h1 := laws_toStamp.says h.2 r.time r.who
  refine run_code (b := laws_toReg.m) h.1 ⟨0, ?_⟩
  simp [exB, laws_toReg.m, laws_toReg.b, List.range_succ, h1]
theorem laws_toRegS.says (h : laws_toRegS.k M) (l : List Reg) (hl : l.length ≤ 1048576) : run M 251 [.c (regs l)] [] = some (.c (.sl true 3 (l.map encReg)), []) := by
  refine toS_says (M := M) (F := 251) (n := 3) (by' := 24) (z := [.int .i64 0, .int .i64 0, .int .i64 0]) (f := 288) h.1 rfl (by simpa using hl) (by omega) (fun r hr => ?_)
  obtain ⟨x, _, rfl⟩ := List.mem_map.1 hr
  exact ⟨rfl, rfl, _, laws_toReg.says h.2 x, rfl, rfl⟩
theorem laws_toMail.says (h : laws_toMail.k M) (m : Mail) (hm : wMail m ≤ 1048576) : run M 209 [.a (encMail m)] [] = some (.a (encMailO m), []) := by
  have h1 := laws_toRegS.says h.2 m.flags (by unfold wMail at hm; omega)
  refine run_code (b := laws_toMail.m) h.1 ⟨0, ?_⟩
  simp [exB, laws_toMail.m, laws_toMail.b, List.range_succ, h1, setAt, List.take_of_length_le]
theorem laws_toMailS.says (h : laws_toMailS.k M) (l : List Mail) (hl : wMails l ≤ 1048576) : run M 110 [.c (mails l)] [] = some (.c (.sl true 4 (l.map encMail)), []) := by
  refine toS_says (M := M) (F := 110) (n := 4) (by' := 56) (z := [.int .i64 0, .int .i64 0, .nils 3, .str ⟨#[]⟩]) (f := 209) h.1 rfl (by simp; unfold wMails at hl; omega) (by omega) (fun r hr => ?_)
  obtain ⟨x, hx, rfl⟩ := List.mem_map.1 hr
  exact ⟨rfl, rfl, _, laws_toMail.says h.2 x (Nat.le_trans (wMail_le hx) hl), rfl, rfl⟩
theorem laws_toBox.says (h : laws_toBox.k M) (b : Box) (hb : wBox b ≤ 1048576) : run M 18 [.a (encBox b)] [] = some (.a (encBoxO b), []) := by
  obtain ⟨h0, k1, k2, k3⟩ := h
  have h1 := laws_toIntS.says k1 b.gone (by unfold wBox at hb; omega)
  have h2 := laws_toStamp.says k2 b.time b.who
  have h3 := laws_toMailS.says k3 b.mails (by unfold wBox at hb; omega)
  refine run_code (b := laws_toBox.m) h0 ⟨0, ?_⟩
  simp [exB, laws_toBox.m, laws_toBox.b, List.range_succ, h1, h2, h3, setAt, List.take_of_length_le]

/-! ## held against -/
theorem laws_eqStamp.says (h : laws_eqStamp.k M) (a b : Int) : run M 111 [.a [I a, I b], .a [I a, I b]] [] = some (.c (.bool true), []) := by
  refine run_code (b := laws_eqStamp.m) h ⟨0, ?_⟩
  simp [exB, laws_eqStamp.m, laws_eqStamp.b, List.range_succ]
theorem laws_eqReg.says (h : laws_eqReg.k M) (r : Reg) : run M 289 [.a (encReg r), .a (encReg r)] [] = some (.c (.bool true), []) := by
  have h1 := laws_eqStamp.says h.2 r.time r.who
  refine run_code (b := laws_eqReg.m) h.1 ⟨0, ?_⟩
  simp [exB, laws_eqReg.m, laws_eqReg.b, List.range_succ, h1]
theorem laws_eqRegS.says (h : laws_eqRegS.k M) (l : List Reg) (hl : l.length ≤ 1048576) : run M 252 [.c (regs l), .c (regs l)] [] = some (.c (.bool true), []) := by
  refine eqS_says (M := M) (F := 252) (n := 3) (f := 289) h.1 (by simp; omega) (fun r hr => ?_)
  obtain ⟨x, _, rfl⟩ := List.mem_map.1 hr
  exact ⟨rfl, rfl, laws_eqReg.says h.2 x⟩
theorem laws_eqMail.says (h : laws_eqMail.k M) (m : Mail) (hm : wMail m ≤ 1048576) : run M 210 [.a (encMail m), .a (encMail m)] [] = some (.c (.bool true), []) := by
  have h1 := laws_eqRegS.says h.2 m.flags (by unfold wMail at hm; omega)
  refine run_code (b := laws_eqMail.m) h.1 ⟨0, ?_⟩
  simp [exB, laws_eqMail.m, laws_eqMail.b, List.range_succ, h1]
theorem laws_eqMailS.says (h : laws_eqMailS.k M) (l : List Mail) (hl : wMails l ≤ 1048576) : run M 112 [.c (mails l), .c (mails l)] [] = some (.c (.bool true), []) := by
  refine eqS_says (M := M) (F := 112) (n := 4) (f := 210) h.1 (by simp; unfold wMails at hl; omega) (fun r hr => ?_)
  obtain ⟨x, hx, rfl⟩ := List.mem_map.1 hr
  exact ⟨rfl, rfl, laws_eqMail.says h.2 x (Nat.le_trans (wMail_le hx) hl)⟩
theorem laws_eqBox.says (h : laws_eqBox.k M) (b : Box) (hb : wBox b ≤ 1048576) : run M 21 [.a (encBox b), .a (encBox b)] [] = some (.c (.bool true), []) := by
  obtain ⟨h0, k1, k2, k3⟩ := h
  have h1 := laws_eqIntS.says k1 b.gone (by unfold wBox at hb; omega)
  have h2 := laws_eqStamp.says k2 b.time b.who
  have h3 := laws_eqMailS.says k3 b.mails (by unfold wBox at hb; omega)
  refine run_code (b := laws_eqBox.m) h0 ⟨0, ?_⟩
  simp [exB, laws_eqBox.m, laws_eqBox.b, List.range_succ, h1, h2, h3]
end Mx

/-
  Where a mail stands in a box; Holds, KeepsUid and their laws.
-/
namespace Mx
open Go
variable {M : Nat → Option Body}
/-- the first mail of this number, from a place on -/
def atO (l : List Mail) (g : Int) : Nat → Nat → Option Nat
  | 0, _ => none
  | d + 1, i => if h : i < l.length then (if l[i].gid = g then some i else atO l g d (i + 1)) else none
def mailO (l : List Mail) (g : Int) : Option Nat := atO l g l.length 0
def intO : Option Nat → Int
  | some i => i
  | none => -1
theorem atO_lt (l : List Mail) (g : Int) : ∀ d i k, atO l g d i = some k → k < l.length
  | 0, i, k, h => by simp [atO] at h
  | d + 1, i, k, h => by
    rw [atO] at h
    by_cases hl : i < l.length
    · rw [dif_pos hl] at h
      split at h
      · cases h; exact hl
      · exact atO_lt l g d (i + 1) k h
    · rw [dif_neg hl] at h; cases h
def atFin (q : Option Nat) (m : St) : Out × St := match q with
  | some i => (.ret, { t := [(4, .c (I i))], o := [], n := m.n })
  | none => (.exit 0, m)
theorem atFin_ne (q : Option Nat) (m : St) : (atFin q m).1 ≠ .normal := by cases q <;> simp [atFin]
/-- the loop of either -/
theorem at_loop {f : St → Option (Out × St)} {β : Type} (l : List Mail) (g : Int) (S : Nat → β → St)
    (h1 : ∀ i (h : i < l.length) x, l[i].gid = g → ∃ m, f (S i x) = some (atFin (some i) m)) (h2 : ∀ i (h : i < l.length) x, ¬ l[i].gid = g → ∃ y, f (S i x) = some (.normal, S (i + 1) y))
    (h3 : ∀ x, ∃ m, f (S l.length x) = some (atFin none m)) : ∃ g' : β → St, ∀ x, loopN f (l.length + 1) (S 0 x) = some (atFin (mailO l g) (g' x)) := by
  refine loop_all (f := f) S (fun i => i ≤ l.length) (fun i => l.length - i) (fun i => atO l g (l.length - i) i) atFin ?_ (l.length + 1) 0 (Nat.zero_le _) (by omega)
  intro i x hi
  by_cases hlt : i < l.length
  · have hd : l.length - i = (l.length - (i + 1)) + 1 := by omega
    have hg : atO l g (l.length - i) i = if l[i].gid = g then some i else atO l g (l.length - (i + 1)) (i + 1) := by rw [hd, atO, dif_pos hlt]
    simp only [hg]
    by_cases c : l[i].gid = g
    · right
      obtain ⟨m, hm⟩ := h1 i hlt x c
      rw [if_pos c]
      exact ⟨m, hm, atFin_ne _ _⟩
    · left
      obtain ⟨y, hy⟩ := h2 i hlt x c
      rw [if_neg c]
      exact ⟨i + 1, y, hy, hlt, by omega, rfl⟩
  · have : i = l.length := by omega
    subst this
    right
    obtain ⟨m, hm⟩ := h3 x
    simp only [Nat.sub_self, atO]
    exact ⟨m, hm, atFin_ne _ _⟩

def spAtS (b : Box) (g : Int) (i : Nat) (x : Nat × Nat) : St := { t := [(1, .c (I g)), (2, .c (.ptr 2 x.1 0 0)), (5, .c (I i))], o := [(2, ⟨x.1, 7, true, true, [encBox b]⟩)], n := x.2 }
theorem spec_MailAt.says (h : spec_MailAt.k M) (b : Box) (g : Int) (hb : b.mails.length ≤ 1048576) : run M 91 [.a (encBox b), .c (I g)] [] = some (.c (I (intO (mailO b.mails g))), []) := by
  refine run_code (b := spec_MailAt.m) h ⟨b.mails.length + 1, ?_⟩
  obtain ⟨g', hr⟩ := at_loop (f := exC (run M) (b.mails.length + 1) spec_MailAt.l0) b.mails g (spAtS b g)
    (fun i hi x c => by
      obtain ⟨v, x⟩ := x
      simp [spAtS, spec_MailAt.l0, hi, c, encMail, atFin]
      exact ⟨⟨[], [], _⟩, rfl⟩)
    (fun i hi x c => by
      obtain ⟨v, x⟩ := x
      have e5 : IntKind.i64.wrap ((i : Int) + 1) = (i : Int) + 1 := wrap_i64 (by omega) (by omega)
      simp only [Prod.exists]
      simp [spAtS, spec_MailAt.l0, hi, c, encMail, e5])
    (fun x => by
      obtain ⟨v, x⟩ := x
      simp [spAtS, spec_MailAt.l0, atFin])
  cases hm : mailO b.mails g with
  | none =>
    simp [spAtS, hm, atFin] at hr
    simp [exB, spec_MailAt.m, spec_MailAt.b, List.range_succ, hr, intO]
  | some k =>
    simp [spAtS, hm, atFin] at hr
    simp [exB, spec_MailAt.m, spec_MailAt.b, List.range_succ, hr, intO]
theorem impl_MailAt_1.says (h : impl_MailAt_1.k M) (m : Mail) (g : Int) : run M 160 [.a (encMail m), .c (.vp [I g] 0)] [] = some (.c (.bool (decide (m.gid = g))), []) := by
  refine run_code (b := impl_MailAt_1.m) h ⟨0, ?_⟩
  simp [exB, impl_MailAt_1.m, impl_MailAt_1.b, List.range_succ]
def ixS (l : List Mail) (g : Int) (i : Nat) (x : Nat) : St := { t := [(0, .c (mails l)), (1, .c (.fn 160 [.vp [I g] 0])), (7, .c (I l.length)), (8, .c (I i))], o := [], n := x }
theorem slices_IndexFunc_impl_Mail_impl_Mail.says (h : slices_IndexFunc_impl_Mail_impl_Mail.k M) (h2 : impl_MailAt_1.k M) (l : List Mail) (g : Int) (hl : l.length ≤ 1048576) :
    run M 161 [.c (mails l), .c (.fn 160 [.vp [I g] 0])] [] = some (.c (I (intO (mailO l g))), []) := by
  refine run_code (b := slices_IndexFunc_impl_Mail_impl_Mail.m) h ⟨l.length + 1, ?_⟩
  obtain ⟨g', hr⟩ := at_loop (f := exC (run M) (l.length + 1) slices_IndexFunc_impl_Mail_impl_Mail.l0) l g (ixS l g)
    (fun i hi x c => by
      have hm := impl_MailAt_1.says h2 l[i] g
      rw [decide_eq_true c] at hm
      simp [ixS, slices_IndexFunc_impl_Mail_impl_Mail.l0, hi, hm, encMail, atFin]
      exact ⟨⟨[], [], _⟩, rfl⟩)
    (fun i hi x c => by
      have hm := impl_MailAt_1.says h2 l[i] g
      rw [decide_eq_false c] at hm
      have e5 : IntKind.i64.wrap ((i : Int) + 1) = (i : Int) + 1 := wrap_i64 (by omega) (by omega)
      simp [ixS, slices_IndexFunc_impl_Mail_impl_Mail.l0, hi, hm, encMail, e5])
    (fun x => by simp [ixS, slices_IndexFunc_impl_Mail_impl_Mail.l0, atFin])
  cases hm : mailO l g with
  | none =>
    simp [ixS, hm, atFin] at hr
    simp [exB, slices_IndexFunc_impl_Mail_impl_Mail.m, slices_IndexFunc_impl_Mail_impl_Mail.b, List.range_succ, hr, intO]
  | some k =>
    simp [ixS, hm, atFin] at hr
    simp [exB, slices_IndexFunc_impl_Mail_impl_Mail.m, slices_IndexFunc_impl_Mail_impl_Mail.b, List.range_succ, hr, intO]
theorem impl_MailAt.says (h : impl_MailAt.k M) (b : Box) (g : Int) (hb : b.mails.length ≤ 1048576) : run M 72 [.a (encBox b), .c (I g)] [] = some (.c (I (intO (mailO b.mails g))), []) := by
  have h1 := slices_IndexFunc_impl_Mail_impl_Mail.says h.2.2 h.2.1 b.mails g hb
  refine run_code (b := impl_MailAt.m) h.1 ⟨0, ?_⟩
  simp [exB, impl_MailAt.m, impl_MailAt.b, List.range_succ, h1]

def holds (b : Box) (g : Int) : Bool := decide (0 ≤ intO (mailO b.mails g))
theorem spec_Holds.says (h : spec_Holds.k M) (b : Box) (g : Int) (hb : b.mails.length ≤ 1048576) : run M 19 [.a (encBox b), .c (I g)] [] = some (.c (.bool (holds b g)), []) := by
  have h1 := spec_MailAt.says h.2 b g hb
  refine run_code (b := spec_Holds.m) h.1 ⟨0, ?_⟩
  simp [exB, spec_Holds.m, spec_Holds.b, List.range_succ, h1, holds, List.take_of_length_le]
theorem impl_Holds.says (h : impl_Holds.k M) (b : Box) (g : Int) (hb : b.mails.length ≤ 1048576) : run M 20 [.a (encBox b), .c (I g)] [] = some (.c (.bool (holds b g)), []) := by
  have h1 := impl_MailAt.says h.2 b g hb
  refine run_code (b := impl_Holds.m) h.1 ⟨0, ?_⟩
  simp [exB, impl_Holds.m, impl_Holds.b, List.range_succ, h1, holds, List.take_of_length_le]
theorem wBox_mails {b : Box} {n : Nat} (h : wBox b ≤ n) : b.mails.length ≤ n := by unfold wBox wMails at h; omega
theorem laws_FnExactHolds.says (h : laws_FnExactHolds.k M) (b : Box) (g : Int) (hb : BoxFits b) : run M 365 [.a (encBox b), .c (I g)] [] = some (.c (.bool true), []) := by
  obtain ⟨h0, k1, k2, k3, k4, k5⟩ := h
  have h1 := laws_szBox.says k1 b hb 1048576 (by omega)
  refine run_code (b := laws_FnExactHolds.m) h0 ⟨0, ?_⟩
  by_cases c : 1048576 < wBox b
  · rw [if_pos c] at h1
    simp only [Int.cast_ofNat_Int] at h1
    simp [exB, laws_FnExactHolds.m, laws_FnExactHolds.b, List.range_succ, h1, List.take_of_length_le]
  · rw [if_neg c] at h1
    simp only [Int.cast_ofNat_Int] at h1
    have hw : wBox b ≤ 1048576 := by omega
    have e1 : ¬ (1048576 : Int) - wBox b < 0 := by omega
    have h2 := laws_toBox.says k2 b hw
    have h3 := spec_Holds.says k3 b g (wBox_mails hw)
    have h4 := impl_Holds.says k4 b g (wBox_mails hw)
    have h5 := laws_eqBox.says k5 b hw
    simp only [encBox, encBoxO] at h1 h2 h3 h4 h5
    simp [exB, laws_FnExactHolds.m, laws_FnExactHolds.b, List.range_succ, h1, h2, h3, h4, h5, e1, setAt, List.take_of_length_le]
theorem laws_FnExactHolds.row (h : laws_FnExactHolds.k M) {as : List V} (ha : HasVs [.struct ctBox, .cell (.int .i64)] as) : run M 365 as [] = some (.c (.bool true), []) := by
  cases ha with | cons h0 ha =>
  cases ha with | cons h1 ha =>
  cases ha
  cases h0 with | struct h0 =>
  cases h1 with | cell h1 =>
  obtain ⟨b, rfl, hb⟩ := has_box h0
  obtain ⟨g, rfl⟩ := has_int h1
  exact laws_FnExactHolds.says h b g hb
end Mx

/-
  Loops that go through a list up to the first place of a kind.
-/
namespace Mx
open Go
/-- the first place from i on, of the d places there, of which p says yes -/
def firstF (p : Nat → Bool) : Nat → Nat → Option Nat
  | 0, _ => none
  | d + 1, i => if p i = true then some i else firstF p d (i + 1)
def firstN (p : Nat → Bool) (n : Nat) : Option Nat := firstF p n 0
theorem firstF_none (p : Nat → Bool) : ∀ d i, firstF p d i = none → ∀ j, i ≤ j → j < i + d → p j = false
  | 0, i, _, j, h1, h2 => by omega
  | d + 1, i, h, j, h1, h2 => by
    rw [firstF] at h
    split at h
    · cases h
    · by_cases e : j = i
      · subst e; simpa using ‹¬p j = true›
      · exact firstF_none p d (i + 1) h j (by omega) (by omega)
theorem firstF_some (p : Nat → Bool) : ∀ d i k, firstF p d i = some k → i ≤ k ∧ k < i + d ∧ p k = true ∧ ∀ j, i ≤ j → j < k → p j = false
  | d + 1, i, k, h => by
    rw [firstF] at h
    split at h
    · cases h
      exact ⟨by omega, by omega, ‹_›, fun j h1 h2 => by omega⟩
    · obtain ⟨h1, h2, h3, h4⟩ := firstF_some p d (i + 1) k h
      refine ⟨by omega, by omega, h3, fun j h5 h6 => ?_⟩
      by_cases e : j = i
      · subst e; simpa using ‹¬p j = true›
      · exact h4 j (by omega) h6
theorem firstN_none {p : Nat → Bool} {n : Nat} (h : firstN p n = none) : ∀ j, j < n → p j = false := fun j hj => firstF_none p n 0 h j (by omega) (by omega)
theorem firstN_some {p : Nat → Bool} {n k : Nat} (h : firstN p n = some k) : k < n ∧ p k = true ∧ ∀ j, j < k → p j = false := by
  obtain ⟨_, h2, h3, h4⟩ := firstF_some p n 0 k h
  exact ⟨by omega, h3, fun j hj => h4 j (by omega) hj⟩
theorem firstN_isNone {p : Nat → Bool} {n : Nat} : firstN p n = none ↔ ∀ j, j < n → p j = false := by
  refine ⟨firstN_none, fun h => ?_⟩
  cases q : firstN p n with
  | none => rfl
  | some k =>
    obtain ⟨h1, h2, _⟩ := firstN_some q
    rw [h k h1] at h2; cases h2
theorem firstN_eq {p : Nat → Bool} {n k : Nat} (h1 : k < n) (h2 : p k = true) (h3 : ∀ j, j < k → p j = false) : firstN p n = some k := by
  cases q : firstN p n with
  | none => rw [firstN_none q k h1] at h2; cases h2
  | some i =>
    obtain ⟨q1, q2, q3⟩ := firstN_some q
    by_cases e : i < k
    · rw [h3 i e] at q2; cases q2
    · by_cases e' : k < i
      · rw [q3 k e'] at h2; cases h2
      · rw [show i = k by omega]
theorem first_loop {γ β : Type} (n : Nat) (p : Nat → Bool) {f : St → Option (Out × St)} (S : Nat → β → St) (fin : Option Nat → γ → Out × St) (hfin : ∀ q m, (fin q m).1 ≠ .normal)
    (h1 : ∀ i, i < n → ∀ x, p i = false → ∃ y, f (S i x) = some (.normal, S (i + 1) y)) (h2 : ∀ i, i < n → ∀ x, p i = true → ∃ m, f (S i x) = some (fin (some i) m))
    (h3 : ∀ x, ∃ m, f (S n x) = some (fin none m)) : ∃ g : β → γ, ∀ x, loopN f (n + 1) (S 0 x) = some (fin (firstN p n) (g x)) := by
  refine loop_all (f := f) S (fun i => i ≤ n) (fun i => n - i) (fun i => firstF p (n - i) i) fin ?_ (n + 1) 0 (Nat.zero_le _) (by omega)
  intro i x hi
  by_cases hlt : i < n
  · have hd : n - i = (n - (i + 1)) + 1 := by omega
    have hg : firstF p (n - i) i = if p i = true then some i else firstF p (n - (i + 1)) (i + 1) := by rw [hd, firstF]
    simp only [hg]
    by_cases c : p i = true
    · right
      obtain ⟨m, hm⟩ := h2 i hlt x c
      rw [if_pos c]
      exact ⟨m, hm, hfin _ _⟩
    · left
      obtain ⟨y, hy⟩ := h1 i hlt x (by simpa using c)
      rw [if_neg c]
      exact ⟨i + 1, y, hy, hlt, by omega, rfl⟩
  · have : i = n := by omega
    subst this
    right
    obtain ⟨m, hm⟩ := h3 x
    simp only [Nat.sub_self, firstF]
    exact ⟨m, hm, hfin _ _⟩
theorem loopN_le {f : St → Option (Out × St)} {n m : Nat} {s : St} {r : Out × St} (h : loopN f n s = some r) (hm : n ≤ m) : loopN f m s = some r := loopN_mono (fun _ _ h => h) hm h
/-- a loop that answers w at the first place found, and goes on behind itself if there is none -/
def fin1 {β : Type} (r : Nat) (w : T) (e : Nat) (E : β → St) (q : Option Nat) (m : β × Nat) : Out × St := match q with
  | none => (.exit e, E m.1)
  | some _ => (.ret, { t := [(r, .c w)], o := [], n := m.2 })
theorem early_loop {β : Type} (n : Nat) (p : Nat → Bool) {f : St → Option (Out × St)} (S : Nat → β → St) (r : Nat) (w : T) (e : Nat) (E : β → St)
    (h1 : ∀ i, i < n → ∀ x, p i = false → ∃ y, f (S i x) = some (.normal, S (i + 1) y)) (h2 : ∀ i, i < n → ∀ x, p i = true → ∃ k, f (S i x) = some (.ret, { t := [(r, .c w)], o := [], n := k }))
    (h3 : ∀ x, ∃ y, f (S n x) = some (.exit e, E y)) : ∃ g : β → β × Nat, ∀ x, loopN f (n + 1) (S 0 x) = some (fin1 r w e E (firstN p n) (g x)) :=
  first_loop n p S (fin1 r w e E) (fun q m => by cases q <;> simp [fin1]) h1 (fun i hi x c => by
    obtain ⟨k, hk⟩ := h2 i hi x c
    exact ⟨(x, k), hk⟩) (fun x => by
    obtain ⟨y, hy⟩ := h3 x
    exact ⟨(y, 0), hy⟩)
/-- a loop that goes through a whole list with what it has so far -/
theorem fold_loop {α σ β γ : Type} (l : List α) (step : σ → α → σ) (Inv : Nat → σ → Prop) {f : St → Option (Out × St)} (S : Nat → σ → β → St) (e : Nat) (E : σ → γ → St)
    (hI : ∀ i (h : i < l.length) s, Inv i s → Inv (i + 1) (step s l[i]))
    (h1 : ∀ i (h : i < l.length) s x, Inv i s → ∃ y, f (S i s x) = some (.normal, S (i + 1) (step s l[i]) y))
    (h3 : ∀ s x, Inv l.length s → ∃ y, f (S l.length s x) = some (.exit e, E s y)) (s : σ) (h0 : Inv 0 s) :
    ∃ g : β → γ, ∀ x, loopN f (l.length + 1) (S 0 s x) = some (.exit e, E (l.foldl step s) (g x)) := by
  refine loop_all (f := f) (fun p : Nat × σ => S p.1 p.2) (fun p => p.1 ≤ l.length ∧ Inv p.1 p.2) (fun p => l.length - p.1) (fun p => (l.drop p.1).foldl step p.2) (fun q m => (.exit e, E q m)) ?_ (l.length + 1) (0, s) ⟨Nat.zero_le _, h0⟩ (by simp)
  rintro ⟨i, s⟩ x ⟨hi, hs⟩
  simp only at hi hs
  by_cases hlt : i < l.length
  · left
    obtain ⟨y, hy⟩ := h1 i hlt s x hs
    refine ⟨(i + 1, step s l[i]), y, hy, ⟨hlt, hI i hlt s hs⟩, by simp only; omega, ?_⟩
    simp only
    rw [List.drop_eq_getElem_cons hlt, List.foldl_cons]
  · have : i = l.length := by omega
    subst this
    right
    obtain ⟨y, hy⟩ := h3 s x hs
    exact ⟨y, by simp [hy], by simp⟩
theorem foldl_inv {α σ : Type} (l : List α) (step : σ → α → σ) (Inv : Nat → σ → Prop) (hI : ∀ i (h : i < l.length) s, Inv i s → Inv (i + 1) (step s l[i])) : ∀ s, Inv 0 s → Inv l.length (l.foldl step s) := by
  have key : ∀ d i s, i + d = l.length → Inv i s → Inv l.length ((l.drop i).foldl step s) := by
    intro d
    induction d with
    | zero => intro i s hi h; have : i = l.length := by omega
              subst this; simpa using h
    | succ d ih =>
      intro i s hi h
      have hlt : i < l.length := by omega
      rw [List.drop_eq_getElem_cons hlt, List.foldl_cons]
      exact ih (i + 1) _ (by omega) (hI i hlt s h)
  intro s h
  simpa using key l.length 0 s (by omega) h
/-- texts one behind the other -/
def texts {α : Type} (t : α → List UInt8) (l : List α) : List UInt8 := l.flatMap t
theorem texts_fold {α : Type} (t : α → List UInt8) (l : List α) (s : List UInt8) : l.foldl (fun s x => s ++ t x) s = s ++ texts t l := by
  induction l generalizing s with
  | nil => simp [texts]
  | cons x l ih => simp [ih, texts, List.flatMap_cons]
theorem texts_len {α : Type} (t : α → List UInt8) (l : List α) (c : Nat) (h : ∀ x ∈ l, (t x).length ≤ c) : (texts t l).length ≤ l.length * c := by
  induction l with
  | nil => simp [texts]
  | cons x l ih =>
    have h1 := ih fun y hy => h y (List.mem_cons_of_mem _ hy)
    have h2 := h x (List.mem_cons_self ..)
    simp only [texts, List.flatMap_cons, List.length_append, List.length_cons] at h1 ⊢
    have : (l.length + 1) * c = l.length * c + c := Nat.succ_mul _ _
    omega
/-- a loop that puts texts behind a text -/
theorem text_loop {α β γ : Type} (l : List α) (t : α → List UInt8) (c a : Nat) (hc : ∀ x ∈ l, (t x).length ≤ c) {f : St → Option (Out × St)} (S : Nat → List UInt8 → β → St) (e : Nat) (E : List UInt8 → γ → St)
    (h1 : ∀ i (h : i < l.length) s x, s.length ≤ a + i * c → ∃ y, f (S i s x) = some (.normal, S (i + 1) (s ++ t l[i]) y))
    (h3 : ∀ s x, ∃ y, f (S l.length s x) = some (.exit e, E s y)) (s : List UInt8) (h0 : s.length ≤ a) :
    ∃ g : β → γ, ∀ x, loopN f (l.length + 1) (S 0 s x) = some (.exit e, E (s ++ texts t l) (g x)) := by
  have := fold_loop l (fun s x => s ++ t x) (fun i s => s.length ≤ a + i * c) S e E (fun i h s hs => by
    have h2 := hc _ (List.getElem_mem h)
    have : (i + 1) * c = i * c + c := Nat.succ_mul _ _
    simp only [List.length_append]; omega) h1 (fun s x _ => h3 s x) s (by simpa using h0)
  simpa only [texts_fold] using this
end Mx

/-
  What is right: stamps, registers, flags, mails, names, lists of numbers, boxes.
-/
namespace Mx
open Go
variable {M : Nat → Option Body}
def inR (a n b : Int) : Bool := decide (a ≤ n) && decide (n ≤ b)
theorem impl_within.inR (h : impl_within.k M) (n a b : Int) : run M 101 [.c (I n), .c (I a), .c (I b)] [] = some (.c (.bool (inR a n b)), []) := impl_within.says h n a b
theorem spec_l01In.inR (h : spec_l01In.k M) (n a b : Int) : run M 98 [.c (I n), .c (I a), .c (I b)] [] = some (.c (.bool (inR a n b)), []) := spec_l01In.says h n a b
def stampOk (t w : Int) : Bool := inR 0 t 100000 && inR 0 w 2
theorem impl_StampOk.says (h : impl_StampOk.k M) (t w : Int) : run M 164 [.a [I t, I w]] [] = some (.c (.bool (stampOk t w)), []) := by
  have h1 := impl_within.inR h.2 t 0 100000
  have h2 := impl_within.inR h.2 w 0 2
  refine run_code (b := impl_StampOk.m) h.1 ⟨0, ?_⟩
  cases c : inR 0 t 100000 <;> simp (maxSteps := 1000000) (disch := (first | omega | (simp; done) | (simp; omega))) [exB, impl_StampOk.m, impl_StampOk.b, List.range_succ, bs_get, List.take_of_length_le, setAt, str_add, h1, h2, c, stampOk]
theorem spec_StampOk.says (h : spec_StampOk.k M) (t w : Int) : run M 183 [.a [I t, I w]] [] = some (.c (.bool (stampOk t w)), []) := by
  have h1 := spec_l01In.inR h.2 t 0 100000
  have h2 := spec_l01In.inR h.2 w 0 2
  refine run_code (b := spec_StampOk.m) h.1 ⟨0, ?_⟩
  cases c : inR 0 t 100000 <;> simp (maxSteps := 1000000) (disch := (first | omega | (simp; done) | (simp; omega))) [exB, spec_StampOk.m, spec_StampOk.b, List.range_succ, bs_get, List.take_of_length_le, setAt, str_add, h1, h2, c, stampOk]
def regOk (r : Reg) : Bool := stampOk r.time r.who && inR 0 r.val 1000000000
theorem impl_RegOk.says (h : impl_RegOk.k M) (r : Reg) : run M 272 [.a (encReg r)] [] = some (.c (.bool (regOk r)), []) := by
  have h1 := impl_StampOk.says h.2.2 r.time r.who
  have h2 := impl_within.inR h.2.1 r.val 0 1000000000
  refine run_code (b := impl_RegOk.m) h.1 ⟨0, ?_⟩
  cases c : stampOk r.time r.who <;> simp (maxSteps := 1000000) (disch := (first | omega | (simp; done) | (simp; omega))) [exB, impl_RegOk.m, impl_RegOk.b, List.range_succ, bs_get, List.take_of_length_le, setAt, str_add, h1, h2, c, regOk]
theorem spec_RegOk.says (h : spec_RegOk.k M) (r : Reg) : run M 276 [.a (encReg r)] [] = some (.c (.bool (regOk r)), []) := by
  have h1 := spec_StampOk.says h.2.2 r.time r.who
  have h2 := spec_l01In.inR h.2.1 r.val 0 1000000000
  refine run_code (b := spec_RegOk.m) h.1 ⟨0, ?_⟩
  cases c : stampOk r.time r.who <;> simp (maxSteps := 1000000) (disch := (first | omega | (simp; done) | (simp; omega))) [exB, spec_RegOk.m, spec_RegOk.b, List.range_succ, bs_get, List.take_of_length_le, setAt, str_add, h1, h2, c, regOk]

/-! ## flags -/
def badFlag (l : List Reg) (i : Nat) : Bool := match l[i]? with
  | some r => !regOk r || decide (1 < r.val)
  | none => false
def flagsOk (l : List Reg) : Bool := (firstN (badFlag l) l.length).isNone && decide (l.length = 3)
theorem badFlag_at {l : List Reg} {i : Nat} (h : i < l.length) : badFlag l i = (!regOk l[i] || decide (1 < l[i].val)) := by simp [badFlag, h]
def ifS (l : List Reg) (i : Nat) (x : Nat) : St := { t := [(0, .c (regs l)), (5, .c (regs l)), (6, .c (I l.length)), (7, .c (I i))], o := [], n := x }
def ifE (l : List Reg) (x : Nat) : St := { t := [(0, .c (regs l)), (5, .c (regs l)), (6, .c (I l.length)), (7, .c (I l.length)), (8, .c (.bool false))], o := [], n := x }
theorem impl_FlagsOk.says (h : impl_FlagsOk.k M) (l : List Reg) (hl : l.length ≤ 1048576) : run M 235 [.c (regs l)] [] = some (.c (.bool (flagsOk l)), []) := by
  refine run_code (b := impl_FlagsOk.m) h.1 ⟨l.length + 1, ?_⟩
  obtain ⟨g, hr⟩ := early_loop (f := exC (run M) (l.length + 1) impl_FlagsOk.l0) l.length (badFlag l) (ifS l) 2 (.bool false) 0 (ifE l)
    (fun i hi x c => by
      have e5 : IntKind.i64.wrap ((i : Int) + 1) = (i : Int) + 1 := wrap_i64 (by omega) (by omega)
      have hm := impl_RegOk.says h.2 l[i]
      rw [badFlag_at hi] at c
      simp at c
      simp only [encReg, c.1] at hm
      have c2 : ¬ (1 : Int) < l[i].val := by omega
      simp (maxSteps := 1000000) (disch := (first | omega | (simp; done) | (simp; omega))) [impl_FlagsOk.l0, List.range_succ, bs_get, List.take_of_length_le, setAt, str_add, ifS, hi, hm, encReg, c, c2, e5])
    (fun i hi x c => by
      have hm := impl_RegOk.says h.2 l[i]
      rw [badFlag_at hi] at c
      cases c1 : regOk l[i]
      · simp only [encReg, c1] at hm
        simp (maxSteps := 1000000) (disch := (first | omega | (simp; done) | (simp; omega))) [impl_FlagsOk.l0, List.range_succ, bs_get, List.take_of_length_le, setAt, str_add, ifS, hi, hm, encReg, c1]
      · simp [c1] at c
        simp only [encReg, c1] at hm
        simp (maxSteps := 1000000) (disch := (first | omega | (simp; done) | (simp; omega))) [impl_FlagsOk.l0, List.range_succ, bs_get, List.take_of_length_le, setAt, str_add, ifS, hi, hm, encReg, c1, c])
    (fun x => by simp (maxSteps := 1000000) (disch := (first | omega | (simp; done) | (simp; omega))) [impl_FlagsOk.l0, List.range_succ, bs_get, List.take_of_length_le, setAt, str_add, ifS, ifE])
  cases q : firstN (badFlag l) l.length with
  | none =>
    simp [ifS, ifE, q, fin1] at hr
    simp (maxSteps := 1000000) (disch := (first | omega | (simp; done) | (simp; omega))) [exB, impl_FlagsOk.m, impl_FlagsOk.b, List.range_succ, bs_get, List.take_of_length_le, setAt, str_add, hr, flagsOk, q]
    omega
  | some k =>
    simp [ifS, q, fin1] at hr
    simp (maxSteps := 1000000) (disch := (first | omega | (simp; done) | (simp; omega))) [exB, impl_FlagsOk.m, impl_FlagsOk.b, List.range_succ, bs_get, List.take_of_length_le, setAt, str_add, hr, flagsOk, q]
def sfS (l : List Reg) (i : Nat) (x : Nat) : St := { t := [(0, .c (regs l)), (3, .c (I i))], o := [], n := x }
def sfE (l : List Reg) (x : Nat) : St := { t := [(0, .c (regs l)), (3, .c (I l.length)), (7, .c (.bool false))], o := [], n := x }
theorem spec_FlagsOk.says (h : spec_FlagsOk.k M) (l : List Reg) (hl : l.length ≤ 1048576) : run M 242 [.c (regs l)] [] = some (.c (.bool (flagsOk l)), []) := by
  refine run_code (b := spec_FlagsOk.m) h.1 ⟨l.length + 1, ?_⟩
  obtain ⟨g, hr⟩ := early_loop (f := exC (run M) (l.length + 1) spec_FlagsOk.l0) l.length (badFlag l) (sfS l) 2 (.bool false) 0 (sfE l)
    (fun i hi x c => by
      have e5 : IntKind.i64.wrap ((i : Int) + 1) = (i : Int) + 1 := wrap_i64 (by omega) (by omega)
      have hm := spec_RegOk.says h.2 l[i]
      rw [badFlag_at hi] at c
      simp at c
      simp only [encReg, c.1] at hm
      have c2 : ¬ (1 : Int) < l[i].val := by omega
      simp (maxSteps := 1000000) (disch := (first | omega | (simp; done) | (simp; omega))) [spec_FlagsOk.l0, List.range_succ, bs_get, List.take_of_length_le, setAt, str_add, sfS, hi, hm, encReg, c, c2, e5])
    (fun i hi x c => by
      have hm := spec_RegOk.says h.2 l[i]
      rw [badFlag_at hi] at c
      cases c1 : regOk l[i]
      · simp only [encReg, c1] at hm
        simp (maxSteps := 1000000) (disch := (first | omega | (simp; done) | (simp; omega))) [spec_FlagsOk.l0, List.range_succ, bs_get, List.take_of_length_le, setAt, str_add, sfS, hi, hm, encReg, c1]
      · simp [c1] at c
        simp only [encReg, c1] at hm
        simp (maxSteps := 1000000) (disch := (first | omega | (simp; done) | (simp; omega))) [spec_FlagsOk.l0, List.range_succ, bs_get, List.take_of_length_le, setAt, str_add, sfS, hi, hm, encReg, c1, c])
    (fun x => by simp (maxSteps := 1000000) (disch := (first | omega | (simp; done) | (simp; omega))) [spec_FlagsOk.l0, List.range_succ, bs_get, List.take_of_length_le, setAt, str_add, sfS, sfE])
  cases q : firstN (badFlag l) l.length with
  | none =>
    simp [sfS, sfE, q, fin1] at hr
    simp (maxSteps := 1000000) (disch := (first | omega | (simp; done) | (simp; omega))) [exB, spec_FlagsOk.m, spec_FlagsOk.b, List.range_succ, bs_get, List.take_of_length_le, setAt, str_add, hr, flagsOk, q]
    omega
  | some k =>
    simp [sfS, q, fin1] at hr
    simp (maxSteps := 1000000) (disch := (first | omega | (simp; done) | (simp; omega))) [exB, spec_FlagsOk.m, spec_FlagsOk.b, List.range_succ, bs_get, List.take_of_length_le, setAt, str_add, hr, flagsOk, q]

/-! ## mails -/
theorem impl_isGid.says (h : impl_isGid.k M) (n : Int) : run M 147 [.c (I n)] [] = some (.c (.bool (inR 1 n 9999)), []) := by
  have h1 := impl_within.inR h.2 n 1 9999
  refine run_code (b := impl_isGid.m) h.1 ⟨0, ?_⟩
  simp (maxSteps := 1000000) (disch := (first | omega | (simp; done) | (simp; omega))) [exB, impl_isGid.m, impl_isGid.b, List.range_succ, bs_get, List.take_of_length_le, setAt, str_add, h1]
def mailOk (m : Mail) : Bool := inR 1 m.gid 9999 && inR 1 m.uid 9999 && flagsOk m.flags && decide (m.text.length ≤ 60)
theorem impl_MailOk.says (h : impl_MailOk.k M) (m : Mail) (hl : m.flags.length ≤ 1048576) : run M 166 [.a (encMail m)] [] = some (.c (.bool (mailOk m)), []) := by
  have h1 := impl_isGid.says h.2.1 m.gid
  have h2 := impl_isGid.says h.2.1 m.uid
  have h3 := impl_FlagsOk.says h.2.2 m.flags hl
  refine run_code (b := impl_MailOk.m) h.1 ⟨0, ?_⟩
  cases c1 : inR 1 m.gid 9999
  · simp (maxSteps := 1000000) (disch := (first | omega | (simp; done) | (simp; omega))) [exB, impl_MailOk.m, impl_MailOk.b, List.range_succ, bs_get, List.take_of_length_le, setAt, str_add, h1, c1, mailOk]
  cases c2 : inR 1 m.uid 9999
  · simp (maxSteps := 1000000) (disch := (first | omega | (simp; done) | (simp; omega))) [exB, impl_MailOk.m, impl_MailOk.b, List.range_succ, bs_get, List.take_of_length_le, setAt, str_add, h1, h2, c1, c2, mailOk]
  cases c3 : flagsOk m.flags
  · simp (maxSteps := 1000000) (disch := (first | omega | (simp; done) | (simp; omega))) [exB, impl_MailOk.m, impl_MailOk.b, List.range_succ, bs_get, List.take_of_length_le, setAt, str_add, h1, h2, h3, c1, c2, c3, mailOk]
  simp (maxSteps := 1000000) (disch := (first | omega | (simp; done) | (simp; omega))) [exB, impl_MailOk.m, impl_MailOk.b, List.range_succ, bs_get, List.take_of_length_le, setAt, str_add, h1, h2, h3, c1, c2, c3, mailOk]
  omega
theorem spec_MailOk.says (h : spec_MailOk.k M) (m : Mail) (hl : m.flags.length ≤ 1048576) : run M 187 [.a (encMail m)] [] = some (.c (.bool (mailOk m)), []) := by
  have h1 := spec_l01In.inR h.2.1 m.gid 1 9999
  have h2 := spec_l01In.inR h.2.1 m.uid 1 9999
  have h3 := spec_FlagsOk.says h.2.2 m.flags hl
  refine run_code (b := spec_MailOk.m) h.1 ⟨0, ?_⟩
  cases c1 : inR 1 m.gid 9999
  · simp (maxSteps := 1000000) (disch := (first | omega | (simp; done) | (simp; omega))) [exB, spec_MailOk.m, spec_MailOk.b, List.range_succ, bs_get, List.take_of_length_le, setAt, str_add, h1, c1, mailOk]
  cases c2 : inR 1 m.uid 9999
  · simp (maxSteps := 1000000) (disch := (first | omega | (simp; done) | (simp; omega))) [exB, spec_MailOk.m, spec_MailOk.b, List.range_succ, bs_get, List.take_of_length_le, setAt, str_add, h1, h2, c1, c2, mailOk]
  cases c3 : flagsOk m.flags
  · simp (maxSteps := 1000000) (disch := (first | omega | (simp; done) | (simp; omega))) [exB, spec_MailOk.m, spec_MailOk.b, List.range_succ, bs_get, List.take_of_length_le, setAt, str_add, h1, h2, h3, c1, c2, c3, mailOk]
  simp (maxSteps := 1000000) (disch := (first | omega | (simp; done) | (simp; omega))) [exB, spec_MailOk.m, spec_MailOk.b, List.range_succ, bs_get, List.take_of_length_le, setAt, str_add, h1, h2, h3, c1, c2, c3, mailOk]
  omega

/-! ## names, lists of numbers -/
def badSign (l : List UInt8) (i : Nat) : Bool := match l[i]? with
  | some b => (decide ((b.toNat : Int) < 97) || decide (122 < (b.toNat : Int))) && (decide ((b.toNat : Int) < 48) || decide (57 < (b.toNat : Int)))
  | none => false
theorem badSign_at {l : List UInt8} {i : Nat} (h : i < l.length) :
    badSign l i = ((decide ((l[i].toNat : Int) < 97) || decide (122 < (l[i].toNat : Int))) && (decide ((l[i].toNat : Int) < 48) || decide (57 < (l[i].toNat : Int)))) := by simp [badSign, h]
def nameOk (l : List UInt8) : Bool := (firstN (badSign l) l.length).isNone && inR 1 l.length 12

def inSS (l : List UInt8) (i : Nat) (x : Nat) : St := { t := [(0, .c (S l)), (3, .c (I i))], o := [], n := x }
def inSE (l : List UInt8) (x : Nat) : St := { t := [(0, .c (S l)), (3, .c (I l.length)), (7, .c (.bool false))], o := [], n := x }
theorem impl_NameOk.says (h : impl_NameOk.k M) (l : List UInt8) (hl : l.length ≤ 4611686018427387904) : run M 89 [.c (S l)] [] = some (.c (.bool (nameOk l)), []) := by
  have h1 := impl_within.inR h.2 l.length 1 12
  refine run_code (b := impl_NameOk.m) h.1 ⟨l.length + 1, ?_⟩
  obtain ⟨g, hr⟩ := early_loop (f := exC (run M) (l.length + 1) impl_NameOk.l0) l.length (badSign l) (inSS l) 2 (.bool false) 0 (inSE l)
    (fun i hi x c => by
      have e5 : IntKind.i64.wrap ((i : Int) + 1) = (i : Int) + 1 := wrap_i64 (by omega) (by omega)
      rw [badSign_at hi] at c
      generalize hb : ((l[i].toNat : Nat) : Int) = b at c
      by_cases c1 : b < 97
      · by_cases c2 : b < 48
        · simp [c1, c2] at c
        · by_cases c3 : 57 < b
          · simp [c1, c2, c3] at c
          · simp (maxSteps := 1000000) (disch := (first | omega | (simp; done) | (simp; omega))) [impl_NameOk.l0, List.range_succ, bs_get, List.take_of_length_le, setAt, str_add, inSS, hi, e5, hb, c1, c2, c3]
      · by_cases c4 : 122 < b
        · have c3 : 57 < b := by omega
          simp [c1, c4, c3] at c
        · simp (maxSteps := 1000000) (disch := (first | omega | (simp; done) | (simp; omega))) [impl_NameOk.l0, List.range_succ, bs_get, List.take_of_length_le, setAt, str_add, inSS, hi, e5, hb, c1, c4])
    (fun i hi x c => by
      rw [badSign_at hi] at c
      generalize hb : ((l[i].toNat : Nat) : Int) = b at c
      by_cases c1 : b < 97
      · by_cases c2 : b < 48
        · simp (maxSteps := 1000000) (disch := (first | omega | (simp; done) | (simp; omega))) [impl_NameOk.l0, List.range_succ, bs_get, List.take_of_length_le, setAt, str_add, inSS, hi, hb, c1, c2]
        · by_cases c3 : 57 < b
          · simp (maxSteps := 1000000) (disch := (first | omega | (simp; done) | (simp; omega))) [impl_NameOk.l0, List.range_succ, bs_get, List.take_of_length_le, setAt, str_add, inSS, hi, hb, c1, c2, c3]
          · simp [c1, c2, c3] at c
      · by_cases c4 : 122 < b
        · have c2 : ¬ b < 48 := by omega
          have c3 : 57 < b := by omega
          simp (maxSteps := 1000000) (disch := (first | omega | (simp; done) | (simp; omega))) [impl_NameOk.l0, List.range_succ, bs_get, List.take_of_length_le, setAt, str_add, inSS, hi, hb, c1, c2, c3, c4]
        · simp [c1, c4] at c)
    (fun x => by simp (maxSteps := 1000000) (disch := (first | omega | (simp; done) | (simp; omega))) [impl_NameOk.l0, List.range_succ, bs_get, List.take_of_length_le, setAt, str_add, inSS, inSE])
  cases q : firstN (badSign l) l.length with
  | none =>
    simp [inSS, inSE, q, fin1] at hr
    simp (maxSteps := 1000000) (disch := (first | omega | (simp; done) | (simp; omega))) [exB, impl_NameOk.m, impl_NameOk.b, List.range_succ, bs_get, List.take_of_length_le, setAt, str_add, hr, nameOk, q, h1]
  | some k =>
    simp [inSS, q, fin1] at hr
    simp (maxSteps := 1000000) (disch := (first | omega | (simp; done) | (simp; omega))) [exB, impl_NameOk.m, impl_NameOk.b, List.range_succ, bs_get, List.take_of_length_le, setAt, str_add, hr, nameOk, q]

def snSS (l : List UInt8) (i : Nat) (x : Nat) : St := { t := [(0, .c (S l)), (3, .c (I i))], o := [], n := x }
def snSE (l : List UInt8) (x : Nat) : St := { t := [(0, .c (S l)), (3, .c (I l.length)), (7, .c (.bool false))], o := [], n := x }
theorem spec_NameOk.says (h : spec_NameOk.k M) (l : List UInt8) (hl : l.length ≤ 4611686018427387904) : run M 90 [.c (S l)] [] = some (.c (.bool (nameOk l)), []) := by
  have h1 := spec_l01In.inR h.2 l.length 1 12
  refine run_code (b := spec_NameOk.m) h.1 ⟨l.length + 1, ?_⟩
  obtain ⟨g, hr⟩ := early_loop (f := exC (run M) (l.length + 1) spec_NameOk.l0) l.length (badSign l) (snSS l) 2 (.bool false) 0 (snSE l)
    (fun i hi x c => by
      have e5 : IntKind.i64.wrap ((i : Int) + 1) = (i : Int) + 1 := wrap_i64 (by omega) (by omega)
      rw [badSign_at hi] at c
      generalize hb : ((l[i].toNat : Nat) : Int) = b at c
      by_cases c1 : b < 97
      · by_cases c2 : b < 48
        · simp [c1, c2] at c
        · by_cases c3 : 57 < b
          · simp [c1, c2, c3] at c
          · simp (maxSteps := 1000000) (disch := (first | omega | (simp; done) | (simp; omega))) [spec_NameOk.l0, List.range_succ, bs_get, List.take_of_length_le, setAt, str_add, snSS, hi, e5, hb, c1, c2, c3]
      · by_cases c4 : 122 < b
        · have c3 : 57 < b := by omega
          simp [c1, c4, c3] at c
        · simp (maxSteps := 1000000) (disch := (first | omega | (simp; done) | (simp; omega))) [spec_NameOk.l0, List.range_succ, bs_get, List.take_of_length_le, setAt, str_add, snSS, hi, e5, hb, c1, c4])
    (fun i hi x c => by
      rw [badSign_at hi] at c
      generalize hb : ((l[i].toNat : Nat) : Int) = b at c
      by_cases c1 : b < 97
      · by_cases c2 : b < 48
        · simp (maxSteps := 1000000) (disch := (first | omega | (simp; done) | (simp; omega))) [spec_NameOk.l0, List.range_succ, bs_get, List.take_of_length_le, setAt, str_add, snSS, hi, hb, c1, c2]
        · by_cases c3 : 57 < b
          · simp (maxSteps := 1000000) (disch := (first | omega | (simp; done) | (simp; omega))) [spec_NameOk.l0, List.range_succ, bs_get, List.take_of_length_le, setAt, str_add, snSS, hi, hb, c1, c2, c3]
          · simp [c1, c2, c3] at c
      · by_cases c4 : 122 < b
        · have c2 : ¬ b < 48 := by omega
          have c3 : 57 < b := by omega
          simp (maxSteps := 1000000) (disch := (first | omega | (simp; done) | (simp; omega))) [spec_NameOk.l0, List.range_succ, bs_get, List.take_of_length_le, setAt, str_add, snSS, hi, hb, c1, c2, c3, c4]
        · simp [c1, c4] at c)
    (fun x => by simp (maxSteps := 1000000) (disch := (first | omega | (simp; done) | (simp; omega))) [spec_NameOk.l0, List.range_succ, bs_get, List.take_of_length_le, setAt, str_add, snSS, snSE])
  cases q : firstN (badSign l) l.length with
  | none =>
    simp [snSS, snSE, q, fin1] at hr
    simp (maxSteps := 1000000) (disch := (first | omega | (simp; done) | (simp; omega))) [exB, spec_NameOk.m, spec_NameOk.b, List.range_succ, bs_get, List.take_of_length_le, setAt, str_add, hr, nameOk, q, h1]
  | some k =>
    simp [snSS, q, fin1] at hr
    simp (maxSteps := 1000000) (disch := (first | omega | (simp; done) | (simp; omega))) [exB, spec_NameOk.m, spec_NameOk.b, List.range_succ, bs_get, List.take_of_length_le, setAt, str_add, hr, nameOk, q]

def badGid (l : List Int) (i : Nat) : Bool := match l[i]? with
  | some g => !inR 1 g 9999 || (decide (0 < i) && match l[i - 1]? with | some f => decide (g ≤ f) | none => false)
  | none => false
theorem badGid_at {l : List Int} {i : Nat} (h : i < l.length) : badGid l i = (!inR 1 l[i] 9999 || (decide (0 < i) && decide (l[i] ≤ l[i - 1]))) := by
  simp [badGid, h, (show i - 1 < l.length by omega)]
def gidsOk (l : List Int) (most : Int) : Bool := (firstN (badGid l) l.length).isNone && decide ((l.length : Int) ≤ most)

def agS (l : List Int) (most : Int) (i : Nat) (x : Nat) : St := { t := [(0, .c (ints l)), (1, .c (I most)), (7, .c (ints l)), (8, .c (I l.length)), (9, .c (I i))], o := [], n := x }
def agE (l : List Int) (most : Int) (x : Nat) : St := { t := [(0, .c (ints l)), (1, .c (I most)), (7, .c (ints l)), (8, .c (I l.length)), (9, .c (I l.length)), (10, .c (.bool false))], o := [], n := x }
theorem impl_areGids.says (h : impl_areGids.k M) (l : List Int) (most : Int) (hl : l.length ≤ 4611686018427387904) : run M 165 [.c (ints l), .c (I most)] [] = some (.c (.bool (gidsOk l most)), []) := by
  refine run_code (b := impl_areGids.m) h.1 ⟨l.length + 1, ?_⟩
  obtain ⟨g, hr⟩ := early_loop (f := exC (run M) (l.length + 1) impl_areGids.l0) l.length (badGid l) (agS l most) 4 (.bool false) 0 (agE l most)
    (fun i hi x c => by
      have e5 : IntKind.i64.wrap ((i : Int) + 1) = (i : Int) + 1 := wrap_i64 (by omega) (by omega)
      have hm := impl_isGid.says h.2 l[i]
      rw [badGid_at hi] at c
      simp at c
      simp only [c.1] at hm
      by_cases c1 : 0 < i
      · have c2 : ¬ l[i] ≤ l[i - 1] := by have := c.2 c1; omega
        have e6 : IntKind.i64.wrap ((i : Int) - 1) = ((i - 1 : Nat) : Int) := by rw [wrap_i64 (by omega) (by omega)]; omega
        simp (maxSteps := 1000000) (disch := (first | omega | (simp; done) | (simp; omega))) [impl_areGids.l0, List.range_succ, bs_get, List.take_of_length_le, setAt, str_add, agS, hi, hm, c1, c2, e5, e6, (show i - 1 < l.length by omega)]
      · simp (maxSteps := 1000000) (disch := (first | omega | (simp; done) | (simp; omega))) [impl_areGids.l0, List.range_succ, bs_get, List.take_of_length_le, setAt, str_add, agS, hi, hm, c1, e5])
    (fun i hi x c => by
      have hm := impl_isGid.says h.2 l[i]
      rw [badGid_at hi] at c
      cases c1 : inR 1 l[i] 9999
      · simp only [c1] at hm
        simp (maxSteps := 1000000) (disch := (first | omega | (simp; done) | (simp; omega))) [impl_areGids.l0, List.range_succ, bs_get, List.take_of_length_le, setAt, str_add, agS, hi, hm]
      · simp [c1] at c
        obtain ⟨c2, c3⟩ := c
        simp only [c1] at hm
        have e6 : IntKind.i64.wrap ((i : Int) - 1) = ((i - 1 : Nat) : Int) := by rw [wrap_i64 (by omega) (by omega)]; omega
        simp (maxSteps := 1000000) (disch := (first | omega | (simp; done) | (simp; omega))) [impl_areGids.l0, List.range_succ, bs_get, List.take_of_length_le, setAt, str_add, agS, hi, hm, c2, c3, e6, (show i - 1 < l.length by omega)])
    (fun x => by simp (maxSteps := 1000000) (disch := (first | omega | (simp; done) | (simp; omega))) [impl_areGids.l0, List.range_succ, bs_get, List.take_of_length_le, setAt, str_add, agS, agE])
  cases q : firstN (badGid l) l.length with
  | none =>
    simp [agS, agE, q, fin1] at hr
    simp (maxSteps := 1000000) (disch := (first | omega | (simp; done) | (simp; omega))) [exB, impl_areGids.m, impl_areGids.b, List.range_succ, bs_get, List.take_of_length_le, setAt, str_add, hr, gidsOk, q]
  | some k =>
    simp [agS, q, fin1] at hr
    simp (maxSteps := 1000000) (disch := (first | omega | (simp; done) | (simp; omega))) [exB, impl_areGids.m, impl_areGids.b, List.range_succ, bs_get, List.take_of_length_le, setAt, str_add, hr, gidsOk, q]

def soS (l : List Int) (most : Int) (i : Nat) (x : Nat) : St := { t := [(0, .c (ints l)), (1, .c (I most)), (5, .c (I i))], o := [], n := x }
def soE (l : List Int) (most : Int) (x : Nat) : St := { t := [(0, .c (ints l)), (1, .c (I most)), (5, .c (I l.length)), (9, .c (.bool false))], o := [], n := x }
theorem spec_l06Sorted.says (h : spec_l06Sorted.k M) (l : List Int) (most : Int) (hl : l.length ≤ 4611686018427387904) : run M 186 [.c (ints l), .c (I most)] [] = some (.c (.bool (gidsOk l most)), []) := by
  refine run_code (b := spec_l06Sorted.m) h.1 ⟨l.length + 1, ?_⟩
  obtain ⟨g, hr⟩ := early_loop (f := exC (run M) (l.length + 1) spec_l06Sorted.l0) l.length (badGid l) (soS l most) 4 (.bool false) 0 (soE l most)
    (fun i hi x c => by
      have e5 : IntKind.i64.wrap ((i : Int) + 1) = (i : Int) + 1 := wrap_i64 (by omega) (by omega)
      have hm := spec_l01In.inR h.2 l[i] 1 9999
      rw [badGid_at hi] at c
      simp at c
      simp only [c.1] at hm
      by_cases c1 : 0 < i
      · have c2 : ¬ l[i] ≤ l[i - 1] := by have := c.2 c1; omega
        have e6 : IntKind.i64.wrap ((i : Int) - 1) = ((i - 1 : Nat) : Int) := by rw [wrap_i64 (by omega) (by omega)]; omega
        simp (maxSteps := 1000000) (disch := (first | omega | (simp; done) | (simp; omega))) [spec_l06Sorted.l0, List.range_succ, bs_get, List.take_of_length_le, setAt, str_add, soS, hi, hm, c1, c2, e5, e6, (show i - 1 < l.length by omega)]
      · simp (maxSteps := 1000000) (disch := (first | omega | (simp; done) | (simp; omega))) [spec_l06Sorted.l0, List.range_succ, bs_get, List.take_of_length_le, setAt, str_add, soS, hi, hm, c1, e5])
    (fun i hi x c => by
      have hm := spec_l01In.inR h.2 l[i] 1 9999
      rw [badGid_at hi] at c
      cases c1 : inR 1 l[i] 9999
      · simp only [c1] at hm
        simp (maxSteps := 1000000) (disch := (first | omega | (simp; done) | (simp; omega))) [spec_l06Sorted.l0, List.range_succ, bs_get, List.take_of_length_le, setAt, str_add, soS, hi, hm]
      · simp [c1] at c
        obtain ⟨c2, c3⟩ := c
        simp only [c1] at hm
        have e6 : IntKind.i64.wrap ((i : Int) - 1) = ((i - 1 : Nat) : Int) := by rw [wrap_i64 (by omega) (by omega)]; omega
        simp (maxSteps := 1000000) (disch := (first | omega | (simp; done) | (simp; omega))) [spec_l06Sorted.l0, List.range_succ, bs_get, List.take_of_length_le, setAt, str_add, soS, hi, hm, c2, c3, e6, (show i - 1 < l.length by omega)])
    (fun x => by simp (maxSteps := 1000000) (disch := (first | omega | (simp; done) | (simp; omega))) [spec_l06Sorted.l0, List.range_succ, bs_get, List.take_of_length_le, setAt, str_add, soS, soE])
  cases q : firstN (badGid l) l.length with
  | none =>
    simp [soS, soE, q, fin1] at hr
    simp (maxSteps := 1000000) (disch := (first | omega | (simp; done) | (simp; omega))) [exB, spec_l06Sorted.m, spec_l06Sorted.b, List.range_succ, bs_get, List.take_of_length_le, setAt, str_add, hr, gidsOk, q]
  | some k =>
    simp [soS, q, fin1] at hr
    simp (maxSteps := 1000000) (disch := (first | omega | (simp; done) | (simp; omega))) [exB, spec_l06Sorted.m, spec_l06Sorted.b, List.range_succ, bs_get, List.take_of_length_le, setAt, str_add, hr, gidsOk, q]

def isAt (l : List Int) (g : Int) (i : Nat) : Bool := match l[i]? with
  | some x => decide (x = g)
  | none => false
theorem isAt_at {l : List Int} {g : Int} {i : Nat} (h : i < l.length) : isAt l g i = decide (l[i] = g) := by simp [isAt, h]
theorem isAt_mem (l : List Int) (g : Int) : (firstN (isAt l g) l.length).isSome = decide (g ∈ l) := by
  rw [Bool.eq_iff_iff]
  simp only [decide_eq_true_eq]
  cases q : firstN (isAt l g) l.length with
  | none =>
    have := firstN_none q
    refine ⟨fun h => by simp at h, fun h => ?_⟩
    obtain ⟨i, hi, e⟩ := List.getElem_of_mem h
    have h1 := this i hi
    rw [isAt_at hi] at h1
    simp [e] at h1
  | some k =>
    obtain ⟨h1, h2, _⟩ := firstN_some q
    rw [isAt_at h1] at h2
    simp at h2
    refine ⟨fun _ => ?_, fun _ => rfl⟩
    rw [← h2]; exact List.getElem_mem h1
def siS (l : List Int) (g : Int) (i : Nat) (x : Nat) : St := { t := [(0, .c (ints l)), (1, .c (I g)), (5, .c (I i))], o := [], n := x }
def siE (l : List Int) (g : Int) (x : Nat) : St := { t := [(0, .c (ints l)), (1, .c (I g)), (5, .c (I l.length)), (9, .c (.bool false))], o := [], n := x }
theorem spec_l06In.says (h : spec_l06In.k M) (l : List Int) (g : Int) (hl : l.length ≤ 4611686018427387904) : run M 132 [.c (ints l), .c (I g)] [] = some (.c (.bool (decide (g ∈ l))), []) := by
  refine run_code (b := spec_l06In.m) h ⟨l.length + 1, ?_⟩
  obtain ⟨g', hr⟩ := early_loop (f := exC (run M) (l.length + 1) spec_l06In.l0) l.length (isAt l g) (siS l g) 4 (.bool true) 0 (siE l g)
    (fun i hi x c => by
      have e5 : IntKind.i64.wrap ((i : Int) + 1) = (i : Int) + 1 := wrap_i64 (by omega) (by omega)
      rw [isAt_at hi] at c
      simp at c
      simp (maxSteps := 1000000) (disch := (first | omega | (simp; done) | (simp; omega))) [spec_l06In.l0, List.range_succ, bs_get, List.take_of_length_le, setAt, str_add, siS, hi, e5, c])
    (fun i hi x c => by
      rw [isAt_at hi] at c
      simp at c
      simp (maxSteps := 1000000) (disch := (first | omega | (simp; done) | (simp; omega))) [spec_l06In.l0, List.range_succ, bs_get, List.take_of_length_le, setAt, str_add, siS, hi, c])
    (fun x => by simp (maxSteps := 1000000) (disch := (first | omega | (simp; done) | (simp; omega))) [spec_l06In.l0, List.range_succ, bs_get, List.take_of_length_le, setAt, str_add, siS, siE])
  have hm := isAt_mem l g
  rw [← hm]
  cases q : firstN (isAt l g) l.length with
  | none =>
    simp [siS, siE, q, fin1] at hr
    simp (maxSteps := 1000000) (disch := (first | omega | (simp; done) | (simp; omega))) [exB, spec_l06In.m, spec_l06In.b, List.range_succ, bs_get, List.take_of_length_le, setAt, str_add, hr]
  | some k =>
    simp [siS, q, fin1] at hr
    simp (maxSteps := 1000000) (disch := (first | omega | (simp; done) | (simp; omega))) [exB, spec_l06In.m, spec_l06In.b, List.range_succ, bs_get, List.take_of_length_le, setAt, str_add, hr]
def xiS (l : List Int) (g : Int) (i : Nat) (x : Nat) : St := { t := [(0, .c (ints l)), (1, .c (I g)), (7, .c (I l.length)), (8, .c (I i))], o := [], n := x }
theorem slices_Index_int_int.says (h : slices_Index_int_int.k M) (l : List Int) (g : Int) (hl : l.length ≤ 4611686018427387904) : run M 234 [.c (ints l), .c (I g)] [] = some (.c (I (intO (firstN (isAt l g) l.length))), []) := by
  refine run_code (b := slices_Index_int_int.m) h ⟨l.length + 1, ?_⟩
  obtain ⟨g', hr⟩ := first_loop (f := exC (run M) (l.length + 1) slices_Index_int_int.l0) l.length (isAt l g) (xiS l g) atFin atFin_ne
    (fun i hi x c => by
      have e5 : IntKind.i64.wrap ((i : Int) + 1) = (i : Int) + 1 := wrap_i64 (by omega) (by omega)
      rw [isAt_at hi] at c
      simp at c
      have c' : ¬ g = l[i] := fun q => c q.symm
      simp (maxSteps := 1000000) (disch := (first | omega | (simp; done) | (simp; omega))) [slices_Index_int_int.l0, List.range_succ, bs_get, List.take_of_length_le, setAt, str_add, xiS, hi, e5, c, c'])
    (fun i hi x c => by
      rw [isAt_at hi] at c
      simp at c
      simp (maxSteps := 1000000) (disch := (first | omega | (simp; done) | (simp; omega))) [slices_Index_int_int.l0, List.range_succ, bs_get, List.take_of_length_le, setAt, str_add, xiS, hi, c, atFin]
      exact ⟨⟨[], [], _⟩, rfl⟩)
    (fun x => by simp (maxSteps := 1000000) (disch := (first | omega | (simp; done) | (simp; omega))) [slices_Index_int_int.l0, List.range_succ, bs_get, List.take_of_length_le, setAt, str_add, xiS, atFin])
  cases q : firstN (isAt l g) l.length with
  | none =>
    simp [xiS, q, atFin] at hr
    simp (maxSteps := 1000000) (disch := (first | omega | (simp; done) | (simp; omega))) [exB, slices_Index_int_int.m, slices_Index_int_int.b, List.range_succ, bs_get, List.take_of_length_le, setAt, str_add, hr, intO]
  | some k =>
    simp [xiS, q, atFin] at hr
    simp (maxSteps := 1000000) (disch := (first | omega | (simp; done) | (simp; omega))) [exB, slices_Index_int_int.m, slices_Index_int_int.b, List.range_succ, bs_get, List.take_of_length_le, setAt, str_add, hr, intO]
theorem intO_pos (q : Option Nat) : decide (0 ≤ intO q) = q.isSome := by cases q <;> simp [intO]
theorem slices_Contains_int_int.says (h : slices_Contains_int_int.k M) (l : List Int) (g : Int) (hl : l.length ≤ 4611686018427387904) : run M 156 [.c (ints l), .c (I g)] [] = some (.c (.bool (decide (g ∈ l))), []) := by
  have h1 := slices_Index_int_int.says h.2 l g hl
  refine run_code (b := slices_Contains_int_int.m) h.1 ⟨0, ?_⟩
  rw [← isAt_mem l g, ← intO_pos]
  simp (maxSteps := 1000000) (disch := (first | omega | (simp; done) | (simp; omega))) [exB, slices_Contains_int_int.m, slices_Contains_int_int.b, List.range_succ, bs_get, List.take_of_length_le, setAt, str_add, h1]
end Mx

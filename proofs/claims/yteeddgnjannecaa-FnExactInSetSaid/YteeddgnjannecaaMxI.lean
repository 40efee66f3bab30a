/-
  The small codes that InSet's law reaches, and what they answer.
-/
import Derived.Test.YteeddgnjannecaaMxB
namespace Mx
open Go
def laws_FnExactInSet.b : C := .seq (.reg [⟨some 6, .mv (.k (.bool false)), none⟩] [0, 1, 2] [])
  (.seq (.reg [⟨some 7, .mv (.k (.int .i64 1048576)), none⟩] [0, 1, 2, 7] [])
  (.seq (.reg [⟨some 11, .mv (.t 0), none⟩,
    ⟨some 12, .mv (.t 7), none⟩,
    ⟨some 13, .call 333 [.t 11, .t 12] [] [], none⟩,
    ⟨some 7, .mv (.t 13), none⟩] [0, 1, 2, 7] [])
  (.seq (.seq (.reg [⟨some 14, .mv (.t 7), none⟩,
    ⟨some 15, .bin .lss (.t 14) (.k (.int .i64 0)), none⟩] [0, 1, 2, 15] [])
  (.cond (.t 15) (.seq (.reg [⟨some 6, .mv (.k (.bool true)), none⟩] [6] [])
  (.ret)) (.skip)))
  (.seq (.reg [⟨some 16, .mv (.t 0), none⟩,
    ⟨some 17, .call 334 [.t 16] [] [], none⟩,
    ⟨some 18, .mv (.t 1), none⟩,
    ⟨some 19, .mv (.t 2), none⟩,
    ⟨some 20, .call 327 [.t 17, .t 18, .t 19] [] [], none⟩,
    ⟨some 8, .mv (.t 20), none⟩] [0, 1, 2, 8] [])
  (.seq (.reg [⟨some 21, .mv (.t 0), none⟩,
    ⟨some 22, .call 334 [.t 21] [] [], none⟩,
    ⟨some 9, .mv (.t 22), none⟩] [0, 1, 2, 8, 9] [])
  (.seq (.reg [⟨some 23, .mv (.t 9), none⟩,
    ⟨some 24, .mv (.t 1), none⟩,
    ⟨some 25, .mv (.t 2), none⟩,
    ⟨some 26, .call 335 [.t 23, .t 24, .t 25] [] [], none⟩,
    ⟨some 10, .mv (.t 26), none⟩] [0, 8, 9, 10] [])
  (.seq (.seq (.reg [⟨some 27, .mv (.t 10), none⟩,
    ⟨some 28, .mv (.t 8), none⟩,
    ⟨some 29, .beq true (.t 27) (.t 28), none⟩] [0, 9, 29] [])
  (.cond (.t 29) (.seq (.reg [⟨some 6, .mv (.k (.bool false)), none⟩] [6] [])
  (.ret)) (.skip)))
  (.seq (.seq (.reg [⟨some 30, .mv (.t 9), none⟩,
    ⟨some 31, .mv (.t 0), none⟩,
    ⟨some 32, .call 334 [.t 31] [] [], none⟩,
    ⟨some 33, .call 336 [.t 30, .t 32] [] [], none⟩,
    ⟨some 34, .not (.t 33), none⟩] [34] [])
  (.cond (.t 34) (.seq (.reg [⟨some 6, .mv (.k (.bool false)), none⟩] [6] [])
  (.ret)) (.skip)))
  (.seq (.reg [⟨some 6, .mv (.k (.bool true)), none⟩] [6] [])
  (.ret))))))))))
def laws_FnExactInSet.m : Fn := { np := 3, body := laws_FnExactInSet.b, res := [.tmp 6] }
def laws_szRangeS.b : C := .seq (.reg [⟨some 4, .mv (.k (.int .i64 0)), none⟩] [0, 1] [])
  (.seq (.reg [⟨some 5, .mv (.t 1), none⟩,
    ⟨some 6, .mv (.t 0), none⟩,
    ⟨some 7, .len (.t 6), none⟩,
    ⟨some 8, .bin .sub (.t 5) (.t 7), none⟩,
    ⟨some 1, .mv (.t 8), none⟩] [1] [])
  (.seq (.seq (.reg [⟨some 9, .mv (.t 1), none⟩,
    ⟨some 10, .bin .lss (.t 9) (.k (.int .i64 0)), none⟩] [1, 10] [])
  (.cond (.t 10) (.seq (.reg [⟨some 4, .mv (.k (.int .i64 (-1))), none⟩] [4] [])
  (.ret)) (.skip)))
  (.seq (.reg [⟨some 11, .mv (.t 1), none⟩,
    ⟨some 4, .mv (.t 11), none⟩] [4] [])
  (.ret))))
def laws_szRangeS.m : Fn := { np := 2, body := laws_szRangeS.b, res := [.tmp 4] }
def spec_InSet.l0 : C := .seq (.seq (.reg [⟨some 12, .mv (.t 7), none⟩,
    ⟨some 13, .mv (.t 0), none⟩,
    ⟨some 14, .len (.t 13), none⟩,
    ⟨some 15, .bin .lss (.t 12) (.t 14), none⟩] [0, 1, 2, 7, 15] [])
  (.cond (.t 15) (.skip) (.exit 0)))
  (.seq (.block 1 (.seq (.reg [⟨some 18, .mv (.t 0), none⟩,
    ⟨some 19, .mv (.t 7), none⟩,
    ⟨some 20, .iaddr 2 (.t 18) (.t 19), none⟩,
    ⟨some 21, .faddr 0 (.t 20), none⟩,
    ⟨some 22, .load false 1 (.t 21), none⟩,
    ⟨some 8, .mv (.t 22), none⟩] [0, 1, 2, 7, 8] [])
  (.seq (.reg [⟨some 23, .mv (.t 0), none⟩,
    ⟨some 24, .mv (.t 7), none⟩,
    ⟨some 25, .iaddr 2 (.t 23) (.t 24), none⟩,
    ⟨some 26, .faddr 1 (.t 25), none⟩,
    ⟨some 27, .load false 1 (.t 26), none⟩,
    ⟨some 9, .mv (.t 27), none⟩] [0, 1, 2, 7, 8, 9] [])
  (.seq (.seq (.reg [⟨some 28, .mv (.t 8), none⟩,
    ⟨some 29, .bin .eql (.t 28) (.k (.int .i64 0)), none⟩] [0, 1, 2, 7, 8, 9, 29] [])
  (.cond (.t 29) (.reg [⟨some 30, .mv (.t 2), none⟩,
    ⟨some 8, .mv (.t 30), none⟩] [0, 1, 2, 7, 8, 9] []) (.skip)))
  (.seq (.seq (.reg [⟨some 31, .mv (.t 9), none⟩,
    ⟨some 32, .bin .eql (.t 31) (.k (.int .i64 0)), none⟩] [0, 1, 2, 7, 8, 9, 32] [])
  (.cond (.t 32) (.reg [⟨some 33, .mv (.t 2), none⟩,
    ⟨some 9, .mv (.t 33), none⟩] [0, 1, 2, 7, 8, 9] []) (.skip)))
  (.seq (.seq (.reg [⟨some 34, .mv (.t 8), none⟩,
    ⟨some 35, .mv (.t 9), none⟩,
    ⟨some 36, .bin .gtr (.t 34) (.t 35), none⟩] [0, 1, 2, 7, 8, 9, 36] [])
  (.cond (.t 36) (.reg [⟨some 37, .mv (.t 9), none⟩,
    ⟨some 38, .mv (.t 8), none⟩,
    ⟨some 8, .mv (.t 37), none⟩,
    ⟨some 9, .mv (.t 38), none⟩] [0, 1, 2, 7, 8, 9] []) (.skip)))
  (.seq (.reg [⟨some 39, .mv (.t 1), none⟩,
    ⟨some 40, .mv (.t 8), none⟩,
    ⟨some 41, .bin .geq (.t 39) (.t 40), none⟩,
    ⟨some 42, .mv (.t 41), none⟩,
    ⟨some 43, .mv (.t 1), some (42, true)⟩,
    ⟨some 44, .mv (.t 9), some (42, true)⟩,
    ⟨some 45, .bin .leq (.t 43) (.t 44), some (42, true)⟩,
    ⟨some 46, .pick (.t 42) (.t 45) (.k (.bool false)), none⟩] [0, 1, 2, 7, 46] [])
  (.cond (.t 46) (.seq (.reg [⟨some 6, .mv (.k (.bool true)), none⟩] [6] [])
  (.ret)) (.skip)))))))))
  (.reg [⟨some 16, .mv (.t 7), none⟩,
    ⟨some 17, .bin .add (.t 16) (.k (.int .i64 1)), none⟩,
    ⟨some 7, .mv (.t 17), none⟩] [0, 1, 2, 7] []))
def spec_InSet.b : C := .seq (.reg [⟨some 6, .mv (.k (.bool false)), none⟩] [0, 1, 2] [])
  (.seq (.seq (.reg [⟨some 10, .mv (.t 1), none⟩,
    ⟨some 11, .bin .lss (.t 10) (.k (.int .i64 1)), none⟩] [0, 1, 2, 11] [])
  (.cond (.t 11) (.seq (.reg [⟨some 6, .mv (.k (.bool false)), none⟩] [6] [])
  (.ret)) (.skip)))
  (.seq (.seq (.reg [⟨some 7, .mv (.k (.int .i64 0)), none⟩] [0, 1, 2, 7] [])
  (.block 0 (.loop spec_InSet.l0)))
  (.seq (.reg [⟨some 6, .mv (.k (.bool false)), none⟩] [6] [])
  (.ret))))
def spec_InSet.m : Fn := { np := 3, body := spec_InSet.b, res := [.tmp 6] }
def laws_toRangeS.l0 : C := .seq (.seq (.reg [⟨some 8, .mv (.t 4), none⟩,
    ⟨some 9, .mv (.t 0), none⟩,
    ⟨some 10, .len (.t 9), none⟩,
    ⟨some 11, .bin .lss (.t 8) (.t 10), none⟩] [0, 3, 4, 11] [7])
  (.cond (.t 11) (.skip) (.exit 0)))
  (.seq (.block 1 (.reg [⟨some 14, .mv (.t 3), none⟩,
    ⟨some 15, .mv (.t 4), none⟩,
    ⟨some 16, .mv (.t 0), none⟩,
    ⟨some 17, .mv (.t 4), none⟩,
    ⟨some 18, .iaddr 2 (.t 16) (.t 17), none⟩,
    ⟨some 19, .load true 2 (.t 18), none⟩,
    ⟨some 20, .call 346 [.t 19] [] [], none⟩,
    ⟨some 21, .iaddr 2 (.t 14) (.t 15), none⟩,
    ⟨none, .store 2 (.t 21) (.t 20), none⟩] [0, 3, 4] [7]))
  (.reg [⟨some 12, .mv (.t 4), none⟩,
    ⟨some 13, .bin .add (.t 12) (.k (.int .i64 1)), none⟩,
    ⟨some 4, .mv (.t 13), none⟩] [0, 3, 4] [7]))
def laws_toRangeS.b : C := .seq (.reg [⟨some 2, .nil 2, none⟩] [0] [])
  (.seq (.reg [⟨some 5, .mv (.t 0), none⟩,
    ⟨some 6, .len (.t 5), none⟩,
    ⟨some 7, .mks 2 16 [.int .i64 0, .int .i64 0] (.t 6), none⟩,
    ⟨some 3, .mv (.t 7), none⟩] [0, 3] [7])
  (.seq (.seq (.reg [⟨some 4, .mv (.k (.int .i64 0)), none⟩] [0, 3, 4] [7])
  (.block 0 (.loop laws_toRangeS.l0)))
  (.seq (.reg [⟨some 22, .mv (.t 3), none⟩,
    ⟨some 2, .mv (.t 22), none⟩] [2] [2, 7])
  (.ret))))
def laws_toRangeS.m : Fn := { np := 1, body := laws_toRangeS.b, res := [.tmp 2] }
def impl_InSet.l0 : C := .seq (.reg [⟨some 14, .bin .lss (.t 13) (.t 12), none⟩] [1, 2, 11, 12, 13, 14] [])
  (.seq (.cond (.t 14) (.skip) (.exit 0))
  (.seq (.block 1 (.seq (.reg [⟨some 15, .iaddr 2 (.t 11) (.t 13), none⟩,
    ⟨some 16, .load true 2 (.t 15), none⟩,
    ⟨some 8, .alloc [.int .i64 0, .int .i64 0], none⟩,
    ⟨none, .store 2 (.t 8) (.t 16), none⟩] [1, 2, 8, 11, 12, 13] [8])
  (.seq (.regd [⟨some 17, .faddr 0 (.t 8), none⟩,
    ⟨some 18, .load false 1 (.t 17), none⟩,
    ⟨some 19, .faddr 1 (.t 8), none⟩,
    ⟨some 20, .load false 1 (.t 19), none⟩,
    ⟨some 9, .mv (.t 18), none⟩,
    ⟨some 10, .mv (.t 20), none⟩] [[], [0], [], [2], [0, 1], [0, 1, 2, 3, 4]] [1, 2, 9, 10, 11, 12, 13] [])
  (.seq (.seq (.reg [⟨some 21, .mv (.t 9), none⟩,
    ⟨some 22, .bin .eql (.t 21) (.k (.int .i64 0)), none⟩] [1, 2, 9, 10, 11, 12, 13, 22] [])
  (.cond (.t 22) (.reg [⟨some 23, .mv (.t 2), none⟩,
    ⟨some 9, .mv (.t 23), none⟩] [1, 2, 9, 10, 11, 12, 13] []) (.skip)))
  (.seq (.seq (.reg [⟨some 24, .mv (.t 10), none⟩,
    ⟨some 25, .bin .eql (.t 24) (.k (.int .i64 0)), none⟩] [1, 2, 9, 10, 11, 12, 13, 25] [])
  (.cond (.t 25) (.reg [⟨some 26, .mv (.t 2), none⟩,
    ⟨some 10, .mv (.t 26), none⟩] [1, 2, 9, 10, 11, 12, 13] []) (.skip)))
  (.seq (.reg [⟨some 27, .mv (.t 1), none⟩,
    ⟨some 28, .bin .gtr (.t 27) (.k (.int .i64 0)), none⟩,
    ⟨some 29, .mv (.t 28), none⟩,
    ⟨some 30, .mv (.t 1), some (29, true)⟩,
    ⟨some 31, .mv (.t 9), some (29, true)⟩,
    ⟨some 32, .mv (.t 10), some (29, true)⟩,
    ⟨some 33, .min (.t 31) (.t 32), some (29, true)⟩,
    ⟨some 34, .mv (.t 9), some (29, true)⟩,
    ⟨some 35, .mv (.t 10), some (29, true)⟩,
    ⟨some 36, .max (.t 34) (.t 35), some (29, true)⟩,
    ⟨some 37, .call 101 [.t 30, .t 33, .t 36] [] [], some (29, true)⟩,
    ⟨some 38, .pick (.t 29) (.t 37) (.k (.bool false)), none⟩] [1, 2, 11, 12, 13, 38] [])
  (.cond (.t 38) (.seq (.reg [⟨some 6, .mv (.k (.bool true)), none⟩] [6] [])
  (.ret)) (.skip))))))))
  (.reg [⟨some 39, .bin .add (.t 13) (.k (.int .i64 1)), none⟩,
    ⟨some 13, .mv (.t 39), none⟩] [1, 2, 11, 12, 13] [])))
def impl_InSet.b : C := .seq (.reg [⟨some 6, .mv (.k (.bool false)), none⟩] [0, 1, 2] [])
  (.seq (.seq (.reg [⟨some 11, .mv (.t 0), none⟩,
    ⟨some 12, .len (.t 11), none⟩,
    ⟨some 13, .mv (.k (.int .i64 0)), none⟩] [1, 2, 11, 12, 13] [])
  (.block 0 (.loop impl_InSet.l0)))
  (.seq (.reg [⟨some 6, .mv (.k (.bool false)), none⟩] [6] [])
  (.ret)))
def impl_InSet.m : Fn := { np := 3, body := impl_InSet.b, res := [.tmp 6] }
def laws_eqRangeS.l0 : C := .seq (.seq (.reg [⟨some 11, .mv (.t 5), none⟩,
    ⟨some 12, .mv (.t 0), none⟩,
    ⟨some 13, .len (.t 12), none⟩,
    ⟨some 14, .bin .lss (.t 11) (.t 13), none⟩] [0, 1, 5, 14] [])
  (.cond (.t 14) (.skip) (.exit 0)))
  (.seq (.block 1 (.seq (.regd [⟨some 17, .mv (.t 0), none⟩,
    ⟨some 18, .mv (.t 5), none⟩,
    ⟨some 19, .iaddr 2 (.t 17) (.t 18), none⟩,
    ⟨some 20, .load true 2 (.t 19), none⟩,
    ⟨some 21, .mv (.t 1), none⟩,
    ⟨some 22, .mv (.t 5), none⟩,
    ⟨some 23, .iaddr 2 (.t 21) (.t 22), none⟩,
    ⟨some 24, .load true 2 (.t 23), none⟩,
    ⟨some 25, .call 347 [.t 20, .t 24] [] [], none⟩,
    ⟨some 26, .not (.t 25), none⟩] [[], [], [0, 1], [0, 1, 2], [], [], [4, 5], [4, 5, 6], [0, 1, 2, 3, 4, 5, 6, 7], [0, 1, 2, 3, 4, 5, 6, 7, 8]] [0, 1, 5, 26] [])
  (.cond (.t 26) (.seq (.reg [⟨some 4, .mv (.k (.bool false)), none⟩] [4] [])
  (.ret)) (.skip))))
  (.reg [⟨some 15, .mv (.t 5), none⟩,
    ⟨some 16, .bin .add (.t 15) (.k (.int .i64 1)), none⟩,
    ⟨some 5, .mv (.t 16), none⟩] [0, 1, 5] []))
def laws_eqRangeS.b : C := .seq (.reg [⟨some 4, .mv (.k (.bool false)), none⟩] [0, 1] [])
  (.seq (.seq (.reg [⟨some 6, .mv (.t 0), none⟩,
    ⟨some 7, .len (.t 6), none⟩,
    ⟨some 8, .mv (.t 1), none⟩,
    ⟨some 9, .len (.t 8), none⟩,
    ⟨some 10, .bin .neq (.t 7) (.t 9), none⟩] [0, 1, 10] [])
  (.cond (.t 10) (.seq (.reg [⟨some 4, .mv (.k (.bool false)), none⟩] [4] [])
  (.ret)) (.skip)))
  (.seq (.seq (.reg [⟨some 5, .mv (.k (.int .i64 0)), none⟩] [0, 1, 5] [])
  (.block 0 (.loop laws_eqRangeS.l0)))
  (.seq (.reg [⟨some 4, .mv (.k (.bool true)), none⟩] [4] [])
  (.ret))))
def laws_eqRangeS.m : Fn := { np := 2, body := laws_eqRangeS.b, res := [.tmp 4] }
def laws_toRange.b : C := .seq (.reg [⟨some 1, .box (.t 0), none⟩,
    ⟨some 2, .alloc [.int .i64 0, .int .i64 0], none⟩] [1, 2] [1, 2])
  (.seq (.reg [⟨some 3, .alloc [.int .i64 0, .int .i64 0], none⟩] [1, 2, 3] [1, 2, 3])
  (.seq (.reg [⟨some 4, .faddr 0 (.t 1), none⟩,
    ⟨some 5, .load false 1 (.t 4), none⟩,
    ⟨some 6, .faddr 0 (.t 3), none⟩,
    ⟨none, .store 1 (.t 6) (.t 5), none⟩] [1, 2, 3] [1, 2, 3])
  (.seq (.reg [⟨some 7, .faddr 1 (.t 1), none⟩,
    ⟨some 8, .load false 1 (.t 7), none⟩,
    ⟨some 9, .faddr 1 (.t 3), none⟩,
    ⟨none, .store 1 (.t 9) (.t 8), none⟩] [2, 3] [2, 3])
  (.seq (.reg [⟨some 10, .load true 2 (.t 3), none⟩,
    ⟨none, .store 2 (.t 2) (.t 10), none⟩] [2] [2])
  (.ret)))))
def laws_toRange.m : Fn := { np := 1, body := laws_toRange.b, res := [.cell 2 true 2] }
def impl_within.b : C := .seq (.reg [⟨some 6, .mv (.k (.bool false)), none⟩] [0, 1, 2] [])
  (.seq (.reg [⟨some 7, .mv (.t 0), none⟩,
    ⟨some 8, .mv (.t 1), none⟩,
    ⟨some 9, .bin .geq (.t 7) (.t 8), none⟩,
    ⟨some 10, .mv (.t 9), none⟩,
    ⟨some 11, .mv (.t 0), some (10, true)⟩,
    ⟨some 12, .mv (.t 2), some (10, true)⟩,
    ⟨some 13, .bin .leq (.t 11) (.t 12), some (10, true)⟩,
    ⟨some 14, .pick (.t 10) (.t 13) (.k (.bool false)), none⟩,
    ⟨some 6, .mv (.t 14), none⟩] [6] [])
  (.ret))
def impl_within.m : Fn := { np := 3, body := impl_within.b, res := [.tmp 6] }
def laws_eqRange.b : C := .seq (.reg [⟨some 2, .box (.t 0), none⟩,
    ⟨some 3, .box (.t 1), none⟩,
    ⟨some 4, .mv (.k (.bool false)), none⟩] [2, 3] [2, 3])
  (.seq (.seq (.reg [⟨some 5, .faddr 0 (.t 2), none⟩,
    ⟨some 6, .load false 1 (.t 5), none⟩,
    ⟨some 7, .faddr 0 (.t 3), none⟩,
    ⟨some 8, .load false 1 (.t 7), none⟩,
    ⟨some 9, .bin .neq (.t 6) (.t 8), none⟩] [2, 3, 9] [2, 3])
  (.cond (.t 9) (.seq (.reg [⟨some 4, .mv (.k (.bool false)), none⟩] [4] [])
  (.ret)) (.skip)))
  (.seq (.seq (.reg [⟨some 10, .faddr 1 (.t 2), none⟩,
    ⟨some 11, .load false 1 (.t 10), none⟩,
    ⟨some 12, .faddr 1 (.t 3), none⟩,
    ⟨some 13, .load false 1 (.t 12), none⟩,
    ⟨some 14, .bin .neq (.t 11) (.t 13), none⟩] [14] [])
  (.cond (.t 14) (.seq (.reg [⟨some 4, .mv (.k (.bool false)), none⟩] [4] [])
  (.ret)) (.skip)))
  (.seq (.reg [⟨some 4, .mv (.k (.bool true)), none⟩] [4] [])
  (.ret))))
def laws_eqRange.m : Fn := { np := 2, body := laws_eqRange.b, res := [.tmp 4] }

def M : Nat → Option Body := fun f => if f = 349 then some (.code laws_FnExactInSet.m) else if f = 333 then some (.code laws_szRangeS.m) else if f = 334 then some (.code laws_toRangeS.m) else if f = 346 then some (.code laws_toRange.m)
  else if f = 327 then some (.code spec_InSet.m) else if f = 335 then some (.code impl_InSet.m) else if f = 101 then some (.code impl_within.m) else if f = 336 then some (.code laws_eqRangeS.m) else if f = 347 then some (.code laws_eqRange.m) else none

structure Range where
  a : Int
  b : Int
def encR (r : Range) : List T := [I r.a, I r.b]
def rows (l : List Range) : List (List T) := l.map encR
def rngs (l : List Range) : T := .sl false 2 (rows l)

theorem within_run (n a b : Int) : run M 101 [.c (I n), .c (I a), .c (I b)] [] = some (.c (.bool (decide (a ≤ n) && decide (n ≤ b))), []) := by
  refine run_code (b := impl_within.m) rfl ⟨0, ?_⟩
  by_cases h : a ≤ n
  · have h' : n ≥ a := h
    simp [exB, impl_within.m, impl_within.b, List.range_succ, h]
  · have h' : ¬ n ≥ a := h
    simp [exB, impl_within.m, impl_within.b, List.range_succ, h]

theorem toRange_run (r : Range) : run M 346 [.a (encR r)] [] = some (.a (encR r), []) := by
  refine run_code (b := laws_toRange.m) rfl ⟨0, ?_⟩
  simp [exB, laws_toRange.m, laws_toRange.b, List.range_succ, encR]
theorem eqRange_run (r : Range) : run M 347 [.a (encR r), .a (encR r)] [] = some (.c (.bool true), []) := by
  refine run_code (b := laws_eqRange.m) rfl ⟨0, ?_⟩
  simp [exB, laws_eqRange.m, laws_eqRange.b, List.range_succ, encR]

theorem rows_len (l : List Range) : (rows l).length = l.length := by simp [rows]
theorem rows_get (l : List Range) (i : Nat) (h : i < l.length) : (rows l)[i]? = some (encR l[i]) := by simp [rows, h]
theorem rows_at (l : List Range) (i : Nat) (h : i < (rows l).length) : (rows l)[i] = encR (l[i]'(by simpa [rows] using h)) := by simp [rows]
theorem rows_append (a b : List Range) : rows (a ++ b) = rows a ++ rows b := by simp [rows]
theorem zrow (n : Nat) : List.replicate n [T.int .i64 0, T.int .i64 0] = List.replicate n [I 0, I 0] := rfl

def toS (l : List Range) (i : Nat) (x : Nat) : St :=
  { t := [(0, .c (rngs l)), (3, .c (.row 7 49 0 l.length)), (4, .c (I i))], o := [(7, ⟨49, 2, true, false, rows (l.take i) ++ List.replicate (l.length - i) [I 0, I 0]⟩)], n := x }

theorem to_round (k : Nat) (l : List Range) (hl : l.length ≤ 1048576) (i : Nat) (hi : i < l.length) (x : Nat) : ∃ y, exC (run M) k laws_toRangeS.l0 (toS l i x) = some (.normal, toS l (i + 1) y) := by
  have e4 : IntKind.i64.wrap ((i : Int) + 1) = ((i + 1 : Nat) : Int) := wrap_i64 (by omega) (by omega)
  have h1 := rows_get l i hi
  have h2 := toRange_run l[i]
  have hlen : (encR l[i]).length = 2 := rfl
  have hti : (rows (l.take i)).length = i := by simp [rows]; omega
  have h3 : (rows (l.take i) ++ List.replicate (l.length - i) [I 0, I 0])[i]? = some [I 0, I 0] := by
    rw [List.getElem?_append_right (by omega), hti, Nat.sub_self, List.getElem?_replicate, if_pos (by omega)]
  have h4 : (rows (l.take i) ++ List.replicate (l.length - i) [I 0, I 0]).set i (encR l[i]) = rows (l.take (i + 1)) ++ List.replicate (l.length - (i + 1)) [I 0, I 0] := by
    have hn : l.length - i = (l.length - (i + 1)) + 1 := by omega
    rw [List.take_succ_eq_append_getElem hi, hn, List.replicate_succ, List.set_append_right _ _ (by omega), hti, Nat.sub_self, List.set_cons_zero, rows_append, List.append_assoc]
    rfl
  simp only [toS, laws_toRangeS.l0]
  simp only [encR] at h2 h4
  have e5 : IntKind.i64.wrap ((i : Int) + 1) = (i : Int) + 1 := wrap_i64 (by omega) (by omega)
  simp [hi, h2, h3, h4, rngs, rows_len, rows_at, encR, e5]

theorem toS_run (l : List Range) (hl : l.length ≤ 1048576) : run M 334 [.c (rngs l)] [] = some (.c (.sl true 2 (rows l)), []) := by
  refine run_code (b := laws_toRangeS.m) rfl ⟨l.length + 1, ?_⟩
  obtain ⟨r, hr, m, hp⟩ := loop_inv (f := exC (run M) (l.length + 1) laws_toRangeS.l0) (toS l) (fun r => ∃ m, r = (.exit 0, { t := [(0, .c (rngs l)), (3, .c (.row 7 49 0 l.length)), (4, .c (I l.length)), (11, .c (.bool false))], o := [(7, ⟨49, 2, true, false, rows l⟩)], n := m })) l.length
    (fun i hi x => to_round _ l hl i hi x)
    (by intro x; simp [toS, laws_toRangeS.l0, rngs, rows_len])
    (l.length + 1) (by omega) 97
  subst hp
  have h0 : rows [] = [] := rfl
  have c1 : l.length ≤ 4294967296 := by omega
  have c2 : 16 * l.length ≤ 140737488355328 := by omega
  simp [toS, rngs, h0] at hr
  simp [exB, laws_toRangeS.m, laws_toRangeS.b, List.range_succ, rngs, rows_len, hr, c1, c2, List.take_of_length_le]

def eqS (l : List Range) (i : Nat) (x : Nat) : St := { t := [(0, .c (rngs l)), (1, .c (rngs l)), (5, .c (I i))], o := [], n := x }
theorem eq_round (k : Nat) (l : List Range) (hl : l.length ≤ 1048576) (i : Nat) (hi : i < l.length) (x : Nat) : ∃ y, exC (run M) k laws_eqRangeS.l0 (eqS l i x) = some (.normal, eqS l (i + 1) y) := by
  have e5 : IntKind.i64.wrap ((i : Int) + 1) = (i : Int) + 1 := wrap_i64 (by omega) (by omega)
  have h2 := eqRange_run l[i]
  simp only [encR] at h2
  simp [eqS, laws_eqRangeS.l0, hi, h2, rngs, rows_len, rows_at, encR, e5, stepsD, entOf, touch, MO.tmps, O.tmps, idsV, idsT, Ent.apart, Ent.W]
theorem eqS_run (l : List Range) (hl : l.length ≤ 1048576) : run M 336 [.c (rngs l), .c (rngs l)] [] = some (.c (.bool true), []) := by
  refine run_code (b := laws_eqRangeS.m) rfl ⟨l.length + 1, ?_⟩
  obtain ⟨r, hr, m, hp⟩ := loop_inv (f := exC (run M) (l.length + 1) laws_eqRangeS.l0) (eqS l) (fun r => ∃ m, r = (.exit 0, { t := [(0, .c (rngs l)), (1, .c (rngs l)), (5, .c (I l.length)), (14, .c (.bool false))], o := [], n := m })) l.length
    (fun i hi x => eq_round _ l hl i hi x)
    (by intro x; simp [eqS, laws_eqRangeS.l0, rngs, rows_len])
    (l.length + 1) (by omega) 114
  subst hp
  simp [eqS, rngs] at hr
  simp [exB, laws_eqRangeS.m, laws_eqRangeS.b, List.range_succ, rngs, rows_len, hr]
theorem sz_run (l : List Range) (hl : l.length ≤ 9223372036854775807) : run M 333 [.c (rngs l), .c (I 1048576)] [] = some (.c (I (if 1048576 < l.length then -1 else 1048576 - l.length)), []) := by
  refine run_code (b := laws_szRangeS.m) rfl ⟨0, ?_⟩
  have e5 : IntKind.i64.wrap (1048576 - (l.length : Int)) = 1048576 - (l.length : Int) := wrap_i64 (by omega) (by omega)
  by_cases h : 1048576 < l.length
  · have h1 : (1048576 : Int) - (l.length : Int) < 0 := by omega
    simp [exB, laws_szRangeS.m, laws_szRangeS.b, List.range_succ, rngs, rows_len, e5, h1, h]
  · have h1 : ¬ (1048576 : Int) - (l.length : Int) < 0 := by omega
    simp [exB, laws_szRangeS.m, laws_szRangeS.b, List.range_succ, rngs, rows_len, e5, h1, h]

def hit (n last : Int) (r : Range) : Bool :=
  let a := if r.a = 0 then last else r.a
  let b := if r.b = 0 then last else r.b
  if b < a then decide (b ≤ n) && decide (n ≤ a) else decide (a ≤ n) && decide (n ≤ b)
def inSet (l : List Range) (n last : Int) : Bool := decide (1 ≤ n) && l.any (hit n last)

def spI (l : List Range) (n last : Int) (i : Nat) (x : Nat) : St := { t := [(0, .c (rngs l)), (1, .c (I n)), (2, .c (I last)), (7, .c (I i))], o := [], n := x }
theorem spI_round (k : Nat) (l : List Range) (n last : Int) (hl : l.length ≤ 1048576) (i : Nat) (hi : i < l.length) (x : Nat) :
    if hit n last l[i] then ∃ y, exC (run M) k spec_InSet.l0 (spI l n last i x) = some (.ret, { t := [(6, .c (.bool true))], o := [], n := y })
    else ∃ y, exC (run M) k spec_InSet.l0 (spI l n last i x) = some (.normal, spI l n last (i + 1) y) := by
  have e5 : IntKind.i64.wrap ((i : Int) + 1) = (i : Int) + 1 := wrap_i64 (by omega) (by omega)
  by_cases ha : l[i].a = 0 <;> by_cases hb : l[i].b = 0 <;> by_cases hc : (if l[i].b = 0 then last else l[i].b) < (if l[i].a = 0 then last else l[i].a) <;>
    by_cases h1 : (if (if l[i].b = 0 then last else l[i].b) < (if l[i].a = 0 then last else l[i].a) then (if l[i].b = 0 then last else l[i].b) else (if l[i].a = 0 then last else l[i].a)) ≤ n <;>
    by_cases h2 : n ≤ (if (if l[i].b = 0 then last else l[i].b) < (if l[i].a = 0 then last else l[i].a) then (if l[i].a = 0 then last else l[i].a) else (if l[i].b = 0 then last else l[i].b)) <;>
    simp only [ha, hb, if_true, if_false] at hc h1 h2 <;> simp only [hc, if_true, if_false] at h1 h2 <;>
    simp [spI, spec_InSet.l0, hit, hi, rngs, rows_len, rows_at, encR, e5, ha, hb, hc, h1, h2]

theorem spI_run (l : List Range) (n last : Int) (hl : l.length ≤ 1048576) : run M 327 [.c (rngs l), .c (I n), .c (I last)] [] = some (.c (.bool (inSet l n last)), []) := by
  obtain ⟨k, hk, hno, hend⟩ := first_split (hit n last) l
  obtain ⟨bb, hbb⟩ : ∃ b, l.any (hit n last) = b := ⟨_, rfl⟩
  rw [hbb] at hend
  refine run_code (b := spec_InSet.m) rfl ⟨k + 1, ?_⟩
  by_cases hn : n < 1
  · have : ¬ 1 ≤ n := by omega
    simp [exB, spec_InSet.m, spec_InSet.b, List.range_succ, inSet, hn, this]
  have hn' : 1 ≤ n := by omega
  obtain ⟨r, hr, hp⟩ := loop_inv (f := exC (run M) (k + 1) spec_InSet.l0) (spI l n last) (fun r => ∃ m, r = if bb = true then (.ret, { t := [(6, .c (.bool true))], o := [], n := m }) else (.exit 0, { t := [(0, .c (rngs l)), (1, .c (I n)), (2, .c (I last)), (7, .c (I l.length)), (15, .c (.bool false))], o := [], n := m })) k
    (fun i hi x => by have := spI_round (k + 1) l n last hl i (by omega) x; rw [hno i (by omega) hi] at this; simpa using this)
    (by
      intro x
      rcases hend with ⟨rfl, h⟩ | ⟨h1, h2, h3⟩
      · simp [spI, spec_InSet.l0, rngs, rows_len, h]
      · have := spI_round (k + 1) l n last hl k h1 x
        rw [h2, if_pos rfl] at this
        obtain ⟨y, hy⟩ := this
        exact ⟨_, hy, by simp, y, by rw [h3, if_pos rfl]⟩)
    (k + 1) (by omega) 67
  obtain ⟨m, rfl⟩ := hp
  simp [spI, rngs] at hr
  cases bb with
  | true =>
    simp only [if_true] at hr
    simp [exB, spec_InSet.m, spec_InSet.b, List.range_succ, inSet, hn, hn', rngs, hr, hbb, -List.any_eq_true]
  | false =>
    simp only [Bool.false_eq_true, if_false] at hr
    simp [exB, spec_InSet.m, spec_InSet.b, List.range_succ, inSet, hn, hn', rngs, hr, hbb, -List.any_eq_true]

def imI (l : List Range) (n last : Int) (i : Nat) (x : Nat) : St := { t := [(1, .c (I n)), (2, .c (I last)), (11, .c (rngs l)), (12, .c (I l.length)), (13, .c (I i))], o := [], n := x }
theorem hit_min (n last : Int) (r : Range) : hit n last r = (decide ((if (if r.b = 0 then last else r.b) < (if r.a = 0 then last else r.a) then (if r.b = 0 then last else r.b) else (if r.a = 0 then last else r.a)) ≤ n) && decide (n ≤ (if (if r.b = 0 then last else r.b) > (if r.a = 0 then last else r.a) then (if r.b = 0 then last else r.b) else (if r.a = 0 then last else r.a)))) := by
  unfold hit
  generalize (if r.a = 0 then last else r.a) = a
  generalize (if r.b = 0 then last else r.b) = b
  by_cases h : b < a
  · have h' : ¬ b > a := by omega
    simp only [h, h', if_true, if_false]
  · by_cases h2 : b > a
    · simp only [h, h2, if_true, if_false]
    · have : a = b := by omega
      subst this
      simp
theorem imI_round (k : Nat) (l : List Range) (n last : Int) (hl : l.length ≤ 1048576) (i : Nat) (hi : i < l.length) (x : Nat) :
    if decide (1 ≤ n) && hit n last l[i] then ∃ y, exC (run M) k impl_InSet.l0 (imI l n last i x) = some (.ret, { t := [(6, .c (.bool true))], o := [], n := y })
    else ∃ y, exC (run M) k impl_InSet.l0 (imI l n last i x) = some (.normal, imI l n last (i + 1) y) := by
  have e5 : IntKind.i64.wrap ((i : Int) + 1) = (i : Int) + 1 := wrap_i64 (by omega) (by omega)
  have hw := within_run n (if (if l[i].b = 0 then last else l[i].b) < (if l[i].a = 0 then last else l[i].a) then (if l[i].b = 0 then last else l[i].b) else (if l[i].a = 0 then last else l[i].a)) (if (if l[i].b = 0 then last else l[i].b) > (if l[i].a = 0 then last else l[i].a) then (if l[i].b = 0 then last else l[i].b) else (if l[i].a = 0 then last else l[i].a))
  rw [← hit_min] at hw
  by_cases hn : 1 ≤ n
  · have hn0 : 0 < n := by omega
    cases hh : hit n last l[i] <;> rw [hh] at hw <;> by_cases ha : l[i].a = 0 <;> by_cases hb : l[i].b = 0 <;> simp only [ha, hb, if_true, if_false, gt_iff_lt, ite_self] at hw <;>
      simp [imI, impl_InSet.l0, hi, rngs, rows_len, rows_at, encR, e5, ha, hb, hw, hn, hn0, stepsD, entOf, touch, MO.tmps, O.tmps, idsV, idsT, Ent.apart, Ent.W]
  · have hn0 : ¬ 0 < n := by omega
    by_cases ha : l[i].a = 0 <;> by_cases hb : l[i].b = 0 <;>
    simp [imI, impl_InSet.l0, hi, rngs, rows_len, rows_at, encR, e5, ha, hb, hn, hn0, stepsD, entOf, touch, MO.tmps, O.tmps, idsV, idsT, Ent.apart, Ent.W]

theorem imI_run (l : List Range) (n last : Int) (hl : l.length ≤ 1048576) : run M 335 [.c (rngs l), .c (I n), .c (I last)] [] = some (.c (.bool (inSet l n last)), []) := by
  obtain ⟨k, hk, hno, hend⟩ := first_split (fun r => decide (1 ≤ n) && hit n last r) l
  have hinS : inSet l n last = l.any (fun r => decide (1 ≤ n) && hit n last r) := by
    unfold inSet
    by_cases h : 1 ≤ n <;> simp [h]
  obtain ⟨bb, hbb⟩ : ∃ b, l.any (fun r => decide (1 ≤ n) && hit n last r) = b := ⟨_, rfl⟩
  rw [hinS]
  rw [hbb] at hend ⊢
  refine run_code (b := impl_InSet.m) rfl ⟨k + 1, ?_⟩
  obtain ⟨r, hr, hp⟩ := loop_inv (f := exC (run M) (k + 1) impl_InSet.l0) (imI l n last) (fun r => ∃ m, r = if bb = true then (.ret, { t := [(6, .c (.bool true))], o := [], n := m }) else (.exit 0, { t := [(1, .c (I n)), (2, .c (I last)), (11, .c (rngs l)), (12, .c (I l.length)), (13, .c (I l.length)), (14, .c (.bool false))], o := [], n := m })) k
    (fun i hi x => by have := imI_round (k + 1) l n last hl i (by omega) x; rw [hno i (by omega) hi] at this; simpa using this)
    (by
      intro x
      rcases hend with ⟨rfl, h⟩ | ⟨h1, h2, h3⟩
      · simp [imI, impl_InSet.l0, rngs, rows_len, h]
      · have := imI_round (k + 1) l n last hl k h1 x
        rw [h2, if_pos rfl] at this
        obtain ⟨y, hy⟩ := this
        exact ⟨_, hy, by simp, y, by rw [h3, if_pos rfl]⟩)
    (k + 1) (by omega) 67
  obtain ⟨m, rfl⟩ := hp
  simp [imI, rngs] at hr
  cases bb with
  | true =>
    simp only [if_true] at hr
    simp [exB, impl_InSet.m, impl_InSet.b, List.range_succ, rngs, rows_len, hr]
  | false =>
    simp only [Bool.false_eq_true, if_false] at hr
    simp [exB, impl_InSet.m, impl_InSet.b, List.range_succ, rngs, rows_len, hr]

theorem law_run (l : List Range) (n last : Int) (hl : l.length ≤ 9223372036854775807) : run M 349 [.c (rngs l), .c (I n), .c (I last)] [] = some (.c (.bool true), []) := by
  refine run_code (b := laws_FnExactInSet.m) rfl ⟨0, ?_⟩
  have h1 := sz_run l hl
  by_cases h : 1048576 < l.length
  · rw [if_pos h] at h1
    simp [rngs] at h1
    simp [exB, laws_FnExactInSet.m, laws_FnExactInSet.b, List.range_succ, rngs, h1]
  · rw [if_neg h] at h1
    have h0 : l.length ≤ 1048576 := by omega
    have e : ¬ (1048576 : Int) - (l.length : Int) < 0 := by omega
    have h2 := toS_run l h0
    have h3 := spI_run l n last h0
    have h4 := imI_run l n last h0
    have h5 := eqS_run l h0
    simp [rngs] at h1 h2 h3 h4 h5
    simp [exB, laws_FnExactInSet.m, laws_FnExactInSet.b, List.range_succ, rngs, h1, h2, h3, h4, h5, e]

theorem has_range {r : List T} (h : HasL [.int .i64, .int .i64] r) : ∃ x : Range, r = encR x := by
  match r, h with
  | [a, b], h =>
    have h1 := h.2 0 _ a rfl rfl
    have h2 := h.2 1 _ b rfl rfl
    cases h1; cases h2
    exact ⟨⟨_, _⟩, rfl⟩
theorem has_rows {rows' : List (List T)} (h : ∀ r ∈ rows', HasL [.int .i64, .int .i64] r) : ∃ l : List Range, rows' = rows l := by
  induction rows' with
  | nil => exact ⟨[], rfl⟩
  | cons r rs ih =>
    obtain ⟨x, rfl⟩ := has_range (h r (List.mem_cons_self ..))
    obtain ⟨l, rfl⟩ := ih fun r hr => h r (List.mem_cons_of_mem _ hr)
    exact ⟨x :: l, rfl⟩
theorem in_args {as : List V} (h : HasVs [.cell (.sl [.int .i64, .int .i64]), .cell (.int .i64), .cell (.int .i64)] as) :
    ∃ (l : List Range) (n last : Int), l.length ≤ 9223372036854775807 ∧ as = [.c (rngs l), .c (I n), .c (I last)] := by
  cases h with | cons h0 h =>
  cases h with | cons h1 h =>
  cases h with | cons h2 h =>
  cases h
  cases h0 with | cell h0 =>
  cases h1 with | cell h1 =>
  cases h2 with | cell h2 =>
  cases h0 with | sl _ rs hl k1 k2 =>
  cases h1; cases h2
  obtain ⟨l, rfl⟩ := has_rows (rows' := rs) fun r hr => by
    obtain ⟨i, hi⟩ := List.getElem?_of_mem hr
    exact ⟨k1 i r hi, fun j c t e1 e2 => k2 i j r c t hi e1 e2⟩
  have : maxLen ≤ 9223372036854775807 := by decide
  exact ⟨l, _, _, by rw [rows_len] at hl; omega, rfl⟩
end Mx

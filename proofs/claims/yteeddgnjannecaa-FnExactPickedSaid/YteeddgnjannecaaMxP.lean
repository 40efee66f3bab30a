/-
  Small codes: impl.within, spec.l01In.
-/
import Derived.Test.YteeddgnjannecaaMxB
namespace Mx
open Go
def impl_within.b : C := .seq (.reg [⟨some 6, .mv (.k (.bool false)), none⟩] [0, 1, 2] [])
  (.seq (.reg [⟨some 7, .mv (.t 0), none⟩,
    ⟨some 8, .mv (.t 1), none⟩,
    ⟨some 9, .bin .geq (.t 7) (.t 8), none⟩,
    ⟨some 10, .mv (.t 9), none⟩,
    ⟨some 11, .mv (.t 0), some (10, true)⟩,
    ⟨some 12, .mv (.t 2), some (10, true)⟩,
    ⟨some 13, .bin .leq (.t 11) (.t 12), some (10, true)⟩,
    ⟨some 14, .pick (.t 10) (.t 13) (.k (.bool false)), none⟩,
    ⟨some 6, .mv (.t 14), none⟩] [6] [])
  (.ret))
def impl_within.m : Fn := { np := 3, body := impl_within.b, res := [.tmp 6] }
def impl_within.k (M : Nat → Option Body) : Prop := M 101 = some (.code impl_within.m)
def spec_l01In.b : C := .seq (.reg [⟨some 6, .mv (.k (.bool false)), none⟩] [0, 1, 2] [])
  (.seq (.reg [⟨some 7, .mv (.t 0), none⟩,
    ⟨some 8, .mv (.t 1), none⟩,
    ⟨some 9, .bin .geq (.t 7) (.t 8), none⟩,
    ⟨some 10, .mv (.t 9), none⟩,
    ⟨some 11, .mv (.t 0), some (10, true)⟩,
    ⟨some 12, .mv (.t 2), some (10, true)⟩,
    ⟨some 13, .bin .leq (.t 11) (.t 12), some (10, true)⟩,
    ⟨some 14, .pick (.t 10) (.t 13) (.k (.bool false)), none⟩,
    ⟨some 6, .mv (.t 14), none⟩] [6] [])
  (.ret))
def spec_l01In.m : Fn := { np := 3, body := spec_l01In.b, res := [.tmp 6] }
def spec_l01In.k (M : Nat → Option Body) : Prop := M 98 = some (.code spec_l01In.m)
end Mx

/-
  What within answers.
-/
namespace Mx
open Go
variable {M : Nat → Option Body}
theorem impl_within.says (h : impl_within.k M) (n a b : Int) : run M 101 [.c (I n), .c (I a), .c (I b)] [] = some (.c (.bool (decide (a ≤ n) && decide (n ≤ b))), []) := by
  refine run_code (b := impl_within.m) h ⟨0, ?_⟩
  by_cases h : a ≤ n
  · have h' : n ≥ a := h
    simp [exB, impl_within.m, impl_within.b, List.range_succ, h]
  · have h' : ¬ n ≥ a := h
    simp [exB, impl_within.m, impl_within.b, List.range_succ, h]
theorem spec_l01In.says (h : spec_l01In.k M) (n a b : Int) : run M 98 [.c (I n), .c (I a), .c (I b)] [] = some (.c (.bool (decide (a ≤ n) && decide (n ≤ b))), []) := by
  refine run_code (b := spec_l01In.m) h ⟨0, ?_⟩
  by_cases h : a ≤ n
  · have h' : n ≥ a := h
    simp [exB, spec_l01In.m, spec_l01In.b, List.range_succ, h]
  · have h' : ¬ n ≥ a := h
    simp [exB, spec_l01In.m, spec_l01In.b, List.range_succ, h]
end Mx

/-
  Small codes: laws.szRangeS, laws.toRange, laws.toRangeS, laws.eqRange, laws.eqRangeS, spec.InSet, impl.InSet.
-/
namespace Mx
open Go
def laws_szRangeS.b : C := .seq (.reg [⟨some 4, .mv (.k (.int .i64 0)), none⟩] [0, 1] [])
  (.seq (.reg [⟨some 5, .mv (.t 1), none⟩,
    ⟨some 6, .mv (.t 0), none⟩,
    ⟨some 7, .len (.t 6), none⟩,
    ⟨some 8, .bin .sub (.t 5) (.t 7), none⟩,
    ⟨some 1, .mv (.t 8), none⟩] [1] [])
  (.seq (.seq (.reg [⟨some 9, .mv (.t 1), none⟩,
    ⟨some 10, .bin .lss (.t 9) (.k (.int .i64 0)), none⟩] [1, 10] [])
  (.cond (.t 10) (.seq (.reg [⟨some 4, .mv (.k (.int .i64 (-1))), none⟩] [4] [])
  (.ret)) (.skip)))
  (.seq (.reg [⟨some 11, .mv (.t 1), none⟩,
    ⟨some 4, .mv (.t 11), none⟩] [4] [])
  (.ret))))
def laws_szRangeS.m : Fn := { np := 2, body := laws_szRangeS.b, res := [.tmp 4] }
def laws_szRangeS.k (M : Nat → Option Body) : Prop := M 333 = some (.code laws_szRangeS.m)
def laws_toRange.b : C := .seq (.reg [⟨some 1, .box (.t 0), none⟩,
    ⟨some 2, .alloc [.int .i64 0, .int .i64 0], none⟩] [1, 2] [1, 2])
  (.seq (.reg [⟨some 3, .alloc [.int .i64 0, .int .i64 0], none⟩] [1, 2, 3] [1, 2, 3])
  (.seq (.reg [⟨some 4, .faddr 0 (.t 1), none⟩,
    ⟨some 5, .load false 1 (.t 4), none⟩,
    ⟨some 6, .faddr 0 (.t 3), none⟩,
    ⟨none, .store 1 (.t 6) (.t 5), none⟩] [1, 2, 3] [1, 2, 3])
  (.seq (.reg [⟨some 7, .faddr 1 (.t 1), none⟩,
    ⟨some 8, .load false 1 (.t 7), none⟩,
    ⟨some 9, .faddr 1 (.t 3), none⟩,
    ⟨none, .store 1 (.t 9) (.t 8), none⟩] [2, 3] [2, 3])
  (.seq (.reg [⟨some 10, .load true 2 (.t 3), none⟩,
    ⟨none, .store 2 (.t 2) (.t 10), none⟩] [2] [2])
  (.ret)))))
def laws_toRange.m : Fn := { np := 1, body := laws_toRange.b, res := [.cell 2 true 2] }
def laws_toRange.k (M : Nat → Option Body) : Prop := M 346 = some (.code laws_toRange.m)
def laws_toRangeS.l0 : C := .seq (.seq (.reg [⟨some 8, .mv (.t 4), none⟩,
    ⟨some 9, .mv (.t 0), none⟩,
    ⟨some 10, .len (.t 9), none⟩,
    ⟨some 11, .bin .lss (.t 8) (.t 10), none⟩] [0, 3, 4, 11] [7])
  (.cond (.t 11) (.skip) (.exit 0)))
  (.seq (.block 1 (.reg [⟨some 14, .mv (.t 3), none⟩,
    ⟨some 15, .mv (.t 4), none⟩,
    ⟨some 16, .mv (.t 0), none⟩,
    ⟨some 17, .mv (.t 4), none⟩,
    ⟨some 18, .iaddr 2 (.t 16) (.t 17), none⟩,
    ⟨some 19, .load true 2 (.t 18), none⟩,
    ⟨some 20, .call 346 [.t 19] [] [], none⟩,
    ⟨some 21, .iaddr 2 (.t 14) (.t 15), none⟩,
    ⟨none, .store 2 (.t 21) (.t 20), none⟩] [0, 3, 4] [7]))
  (.reg [⟨some 12, .mv (.t 4), none⟩,
    ⟨some 13, .bin .add (.t 12) (.k (.int .i64 1)), none⟩,
    ⟨some 4, .mv (.t 13), none⟩] [0, 3, 4] [7]))
def laws_toRangeS.b : C := .seq (.reg [⟨some 2, .nil 2, none⟩] [0] [])
  (.seq (.reg [⟨some 5, .mv (.t 0), none⟩,
    ⟨some 6, .len (.t 5), none⟩,
    ⟨some 7, .mks 2 16 [.int .i64 0, .int .i64 0] (.t 6), none⟩,
    ⟨some 3, .mv (.t 7), none⟩] [0, 3] [7])
  (.seq (.seq (.reg [⟨some 4, .mv (.k (.int .i64 0)), none⟩] [0, 3, 4] [7])
  (.block 0 (.loop laws_toRangeS.l0)))
  (.seq (.reg [⟨some 22, .mv (.t 3), none⟩,
    ⟨some 2, .mv (.t 22), none⟩] [2] [2, 7])
  (.ret))))
def laws_toRangeS.m : Fn := { np := 1, body := laws_toRangeS.b, res := [.tmp 2] }
def laws_toRangeS.k (M : Nat → Option Body) : Prop := M 334 = some (.code laws_toRangeS.m) ∧ laws_toRange.k M
def laws_eqRange.b : C := .seq (.reg [⟨some 2, .box (.t 0), none⟩,
    ⟨some 3, .box (.t 1), none⟩,
    ⟨some 4, .mv (.k (.bool false)), none⟩] [2, 3] [2, 3])
  (.seq (.seq (.reg [⟨some 5, .faddr 0 (.t 2), none⟩,
    ⟨some 6, .load false 1 (.t 5), none⟩,
    ⟨some 7, .faddr 0 (.t 3), none⟩,
    ⟨some 8, .load false 1 (.t 7), none⟩,
    ⟨some 9, .bin .neq (.t 6) (.t 8), none⟩] [2, 3, 9] [2, 3])
  (.cond (.t 9) (.seq (.reg [⟨some 4, .mv (.k (.bool false)), none⟩] [4] [])
  (.ret)) (.skip)))
  (.seq (.seq (.reg [⟨some 10, .faddr 1 (.t 2), none⟩,
    ⟨some 11, .load false 1 (.t 10), none⟩,
    ⟨some 12, .faddr 1 (.t 3), none⟩,
    ⟨some 13, .load false 1 (.t 12), none⟩,
    ⟨some 14, .bin .neq (.t 11) (.t 13), none⟩] [14] [])
  (.cond (.t 14) (.seq (.reg [⟨some 4, .mv (.k (.bool false)), none⟩] [4] [])
  (.ret)) (.skip)))
  (.seq (.reg [⟨some 4, .mv (.k (.bool true)), none⟩] [4] [])
  (.ret))))
def laws_eqRange.m : Fn := { np := 2, body := laws_eqRange.b, res := [.tmp 4] }
def laws_eqRange.k (M : Nat → Option Body) : Prop := M 347 = some (.code laws_eqRange.m)
def laws_eqRangeS.l0 : C := .seq (.seq (.reg [⟨some 11, .mv (.t 5), none⟩,
    ⟨some 12, .mv (.t 0), none⟩,
    ⟨some 13, .len (.t 12), none⟩,
    ⟨some 14, .bin .lss (.t 11) (.t 13), none⟩] [0, 1, 5, 14] [])
  (.cond (.t 14) (.skip) (.exit 0)))
  (.seq (.block 1 (.seq (.regd [⟨some 17, .mv (.t 0), none⟩,
    ⟨some 18, .mv (.t 5), none⟩,
    ⟨some 19, .iaddr 2 (.t 17) (.t 18), none⟩,
    ⟨some 20, .load true 2 (.t 19), none⟩,
    ⟨some 21, .mv (.t 1), none⟩,
    ⟨some 22, .mv (.t 5), none⟩,
    ⟨some 23, .iaddr 2 (.t 21) (.t 22), none⟩,
    ⟨some 24, .load true 2 (.t 23), none⟩,
    ⟨some 25, .call 347 [.t 20, .t 24] [] [], none⟩,
    ⟨some 26, .not (.t 25), none⟩] [[], [], [0, 1], [0, 1, 2], [], [], [4, 5], [4, 5, 6], [0, 1, 2, 3, 4, 5, 6, 7], [0, 1, 2, 3, 4, 5, 6, 7, 8]] [0, 1, 5, 26] [])
  (.cond (.t 26) (.seq (.reg [⟨some 4, .mv (.k (.bool false)), none⟩] [4] [])
  (.ret)) (.skip))))
  (.reg [⟨some 15, .mv (.t 5), none⟩,
    ⟨some 16, .bin .add (.t 15) (.k (.int .i64 1)), none⟩,
    ⟨some 5, .mv (.t 16), none⟩] [0, 1, 5] []))
def laws_eqRangeS.b : C := .seq (.reg [⟨some 4, .mv (.k (.bool false)), none⟩] [0, 1] [])
  (.seq (.seq (.reg [⟨some 6, .mv (.t 0), none⟩,
    ⟨some 7, .len (.t 6), none⟩,
    ⟨some 8, .mv (.t 1), none⟩,
    ⟨some 9, .len (.t 8), none⟩,
    ⟨some 10, .bin .neq (.t 7) (.t 9), none⟩] [0, 1, 10] [])
  (.cond (.t 10) (.seq (.reg [⟨some 4, .mv (.k (.bool false)), none⟩] [4] [])
  (.ret)) (.skip)))
  (.seq (.seq (.reg [⟨some 5, .mv (.k (.int .i64 0)), none⟩] [0, 1, 5] [])
  (.block 0 (.loop laws_eqRangeS.l0)))
  (.seq (.reg [⟨some 4, .mv (.k (.bool true)), none⟩] [4] [])
  (.ret))))
def laws_eqRangeS.m : Fn := { np := 2, body := laws_eqRangeS.b, res := [.tmp 4] }
def laws_eqRangeS.k (M : Nat → Option Body) : Prop := M 336 = some (.code laws_eqRangeS.m) ∧ laws_eqRange.k M
def spec_InSet.l0 : C := .seq (.seq (.reg [⟨some 12, .mv (.t 7), none⟩,
    ⟨some 13, .mv (.t 0), none⟩,
    ⟨some 14, .len (.t 13), none⟩,
    ⟨some 15, .bin .lss (.t 12) (.t 14), none⟩] [0, 1, 2, 7, 15] [])
  (.cond (.t 15) (.skip) (.exit 0)))
  (.seq (.block 1 (.seq (.reg [⟨some 18, .mv (.t 0), none⟩,
    ⟨some 19, .mv (.t 7), none⟩,
    ⟨some 20, .iaddr 2 (.t 18) (.t 19), none⟩,
    ⟨some 21, .faddr 0 (.t 20), none⟩,
    ⟨some 22, .load false 1 (.t 21), none⟩,
    ⟨some 8, .mv (.t 22), none⟩] [0, 1, 2, 7, 8] [])
  (.seq (.reg [⟨some 23, .mv (.t 0), none⟩,
    ⟨some 24, .mv (.t 7), none⟩,
    ⟨some 25, .iaddr 2 (.t 23) (.t 24), none⟩,
    ⟨some 26, .faddr 1 (.t 25), none⟩,
    ⟨some 27, .load false 1 (.t 26), none⟩,
    ⟨some 9, .mv (.t 27), none⟩] [0, 1, 2, 7, 8, 9] [])
  (.seq (.seq (.reg [⟨some 28, .mv (.t 8), none⟩,
    ⟨some 29, .bin .eql (.t 28) (.k (.int .i64 0)), none⟩] [0, 1, 2, 7, 8, 9, 29] [])
  (.cond (.t 29) (.reg [⟨some 30, .mv (.t 2), none⟩,
    ⟨some 8, .mv (.t 30), none⟩] [0, 1, 2, 7, 8, 9] []) (.skip)))
  (.seq (.seq (.reg [⟨some 31, .mv (.t 9), none⟩,
    ⟨some 32, .bin .eql (.t 31) (.k (.int .i64 0)), none⟩] [0, 1, 2, 7, 8, 9, 32] [])
  (.cond (.t 32) (.reg [⟨some 33, .mv (.t 2), none⟩,
    ⟨some 9, .mv (.t 33), none⟩] [0, 1, 2, 7, 8, 9] []) (.skip)))
  (.seq (.seq (.reg [⟨some 34, .mv (.t 8), none⟩,
    ⟨some 35, .mv (.t 9), none⟩,
    ⟨some 36, .bin .gtr (.t 34) (.t 35), none⟩] [0, 1, 2, 7, 8, 9, 36] [])
  (.cond (.t 36) (.reg [⟨some 37, .mv (.t 9), none⟩,
    ⟨some 38, .mv (.t 8), none⟩,
    ⟨some 8, .mv (.t 37), none⟩,
    ⟨some 9, .mv (.t 38), none⟩] [0, 1, 2, 7, 8, 9] []) (.skip)))
  (.seq (.reg [⟨some 39, .mv (.t 1), none⟩,
    ⟨some 40, .mv (.t 8), none⟩,
    ⟨some 41, .bin .geq (.t 39) (.t 40), none⟩,
    ⟨some 42, .mv (.t 41), none⟩,
    ⟨some 43, .mv (.t 1), some (42, true)⟩,
    ⟨some 44, .mv (.t 9), some (42, true)⟩,
    ⟨some 45, .bin .leq (.t 43) (.t 44), some (42, true)⟩,
    ⟨some 46, .pick (.t 42) (.t 45) (.k (.bool false)), none⟩] [0, 1, 2, 7, 46] [])
  (.cond (.t 46) (.seq (.reg [⟨some 6, .mv (.k (.bool true)), none⟩] [6] [])
  (.ret)) (.skip)))))))))
  (.reg [⟨some 16, .mv (.t 7), none⟩,
    ⟨some 17, .bin .add (.t 16) (.k (.int .i64 1)), none⟩,
    ⟨some 7, .mv (.t 17), none⟩] [0, 1, 2, 7] []))
def spec_InSet.b : C := .seq (.reg [⟨some 6, .mv (.k (.bool false)), none⟩] [0, 1, 2] [])
  (.seq (.seq (.reg [⟨some 10, .mv (.t 1), none⟩,
    ⟨some 11, .bin .lss (.t 10) (.k (.int .i64 1)), none⟩] [0, 1, 2, 11] [])
  (.cond (.t 11) (.seq (.reg [⟨some 6, .mv (.k (.bool false)), none⟩] [6] [])
  (.ret)) (.skip)))
  (.seq (.seq (.reg [⟨some 7, .mv (.k (.int .i64 0)), none⟩] [0, 1, 2, 7] [])
  (.block 0 (.loop spec_InSet.l0)))
  (.seq (.reg [⟨some 6, .mv (.k (.bool false)), none⟩] [6] [])
  (.ret))))
def spec_InSet.m : Fn := { np := 3, body := spec_InSet.b, res := [.tmp 6] }
def spec_InSet.k (M : Nat → Option Body) : Prop := M 327 = some (.code spec_InSet.m)
def impl_InSet.l0 : C := .seq (.reg [⟨some 14, .bin .lss (.t 13) (.t 12), none⟩] [1, 2, 11, 12, 13, 14] [])
  (.seq (.cond (.t 14) (.skip) (.exit 0))
  (.seq (.block 1 (.seq (.reg [⟨some 15, .iaddr 2 (.t 11) (.t 13), none⟩,
    ⟨some 16, .load true 2 (.t 15), none⟩,
    ⟨some 8, .alloc [.int .i64 0, .int .i64 0], none⟩,
    ⟨none, .store 2 (.t 8) (.t 16), none⟩] [1, 2, 8, 11, 12, 13] [8])
  (.seq (.regd [⟨some 17, .faddr 0 (.t 8), none⟩,
    ⟨some 18, .load false 1 (.t 17), none⟩,
    ⟨some 19, .faddr 1 (.t 8), none⟩,
    ⟨some 20, .load false 1 (.t 19), none⟩,
    ⟨some 9, .mv (.t 18), none⟩,
    ⟨some 10, .mv (.t 20), none⟩] [[], [0], [], [2], [0, 1], [0, 1, 2, 3, 4]] [1, 2, 9, 10, 11, 12, 13] [])
  (.seq (.seq (.reg [⟨some 21, .mv (.t 9), none⟩,
    ⟨some 22, .bin .eql (.t 21) (.k (.int .i64 0)), none⟩] [1, 2, 9, 10, 11, 12, 13, 22] [])
  (.cond (.t 22) (.reg [⟨some 23, .mv (.t 2), none⟩,
    ⟨some 9, .mv (.t 23), none⟩] [1, 2, 9, 10, 11, 12, 13] []) (.skip)))
  (.seq (.seq (.reg [⟨some 24, .mv (.t 10), none⟩,
    ⟨some 25, .bin .eql (.t 24) (.k (.int .i64 0)), none⟩] [1, 2, 9, 10, 11, 12, 13, 25] [])
  (.cond (.t 25) (.reg [⟨some 26, .mv (.t 2), none⟩,
    ⟨some 10, .mv (.t 26), none⟩] [1, 2, 9, 10, 11, 12, 13] []) (.skip)))
  (.seq (.reg [⟨some 27, .mv (.t 1), none⟩,
    ⟨some 28, .bin .gtr (.t 27) (.k (.int .i64 0)), none⟩,
    ⟨some 29, .mv (.t 28), none⟩,
    ⟨some 30, .mv (.t 1), some (29, true)⟩,
    ⟨some 31, .mv (.t 9), some (29, true)⟩,
    ⟨some 32, .mv (.t 10), some (29, true)⟩,
    ⟨some 33, .min (.t 31) (.t 32), some (29, true)⟩,
    ⟨some 34, .mv (.t 9), some (29, true)⟩,
    ⟨some 35, .mv (.t 10), some (29, true)⟩,
    ⟨some 36, .max (.t 34) (.t 35), some (29, true)⟩,
    ⟨some 37, .call 101 [.t 30, .t 33, .t 36] [] [], some (29, true)⟩,
    ⟨some 38, .pick (.t 29) (.t 37) (.k (.bool false)), none⟩] [1, 2, 11, 12, 13, 38] [])
  (.cond (.t 38) (.seq (.reg [⟨some 6, .mv (.k (.bool true)), none⟩] [6] [])
  (.ret)) (.skip))))))))
  (.reg [⟨some 39, .bin .add (.t 13) (.k (.int .i64 1)), none⟩,
    ⟨some 13, .mv (.t 39), none⟩] [1, 2, 11, 12, 13] [])))
def impl_InSet.b : C := .seq (.reg [⟨some 6, .mv (.k (.bool false)), none⟩] [0, 1, 2] [])
  (.seq (.seq (.reg [⟨some 11, .mv (.t 0), none⟩,
    ⟨some 12, .len (.t 11), none⟩,
    ⟨some 13, .mv (.k (.int .i64 0)), none⟩] [1, 2, 11, 12, 13] [])
  (.block 0 (.loop impl_InSet.l0)))
  (.seq (.reg [⟨some 6, .mv (.k (.bool false)), none⟩] [6] [])
  (.ret)))
def impl_InSet.m : Fn := { np := 3, body := impl_InSet.b, res := [.tmp 6] }
def impl_InSet.k (M : Nat → Option Body) : Prop := M 335 = some (.code impl_InSet.m) ∧ impl_within.k M
end Mx

/-
  Ranges: what is laid over, held against and weighed; what the two InSet answer.
-/
namespace Mx
open Go
variable {M : Nat → Option Body}
structure Range where
  a : Int
  b : Int
def encR (r : Range) : List T := [I r.a, I r.b]
def rows (l : List Range) : List (List T) := l.map encR
abbrev rngs (l : List Range) : T := .sl false 2 (rows l)

theorem laws_toRange.says (h : laws_toRange.k M) (r : Range) : run M 346 [.a (encR r)] [] = some (.a (encR r), []) := by
  refine run_code (b := laws_toRange.m) h ⟨0, ?_⟩
  simp [exB, laws_toRange.m, laws_toRange.b, List.range_succ, encR]
theorem laws_eqRange.says (h : laws_eqRange.k M) (r : Range) : run M 347 [.a (encR r), .a (encR r)] [] = some (.c (.bool true), []) := by
  refine run_code (b := laws_eqRange.m) h ⟨0, ?_⟩
  simp [exB, laws_eqRange.m, laws_eqRange.b, List.range_succ, encR]

theorem rows_len (l : List Range) : (rows l).length = l.length := by simp [rows]
theorem rows_get (l : List Range) (i : Nat) (h : i < l.length) : (rows l)[i]? = some (encR l[i]) := by simp [rows, h]
theorem rows_at (l : List Range) (i : Nat) (h : i < (rows l).length) : (rows l)[i] = encR (l[i]'(by simpa [rows] using h)) := by simp [rows]
theorem rows_append (a b : List Range) : rows (a ++ b) = rows a ++ rows b := by simp [rows]
theorem zrow (n : Nat) : List.replicate n [T.int .i64 0, T.int .i64 0] = List.replicate n [I 0, I 0] := rfl

def toS (l : List Range) (i : Nat) (x : Nat) : St :=
  { t := [(0, .c (rngs l)), (3, .c (.row 7 49 0 l.length)), (4, .c (I i))], o := [(7, ⟨49, 2, true, false, rows (l.take i) ++ List.replicate (l.length - i) [I 0, I 0]⟩)], n := x }

theorem laws_toRangeS.round (h : laws_toRange.k M) (k : Nat) (l : List Range) (hl : l.length ≤ 1048576) (i : Nat) (hi : i < l.length) (x : Nat) : ∃ y, exC (run M) k laws_toRangeS.l0 (toS l i x) = some (.normal, toS l (i + 1) y) := by
  have e4 : IntKind.i64.wrap ((i : Int) + 1) = ((i + 1 : Nat) : Int) := wrap_i64 (by omega) (by omega)
  have h1 := rows_get l i hi
  have h2 := laws_toRange.says h l[i]
  have hlen : (encR l[i]).length = 2 := rfl
  have hti : (rows (l.take i)).length = i := by simp [rows]; omega
  have h3 : (rows (l.take i) ++ List.replicate (l.length - i) [I 0, I 0])[i]? = some [I 0, I 0] := by
    rw [List.getElem?_append_right (by omega), hti, Nat.sub_self, List.getElem?_replicate, if_pos (by omega)]
  have h4 : (rows (l.take i) ++ List.replicate (l.length - i) [I 0, I 0]).set i (encR l[i]) = rows (l.take (i + 1)) ++ List.replicate (l.length - (i + 1)) [I 0, I 0] := by
    have hn : l.length - i = (l.length - (i + 1)) + 1 := by omega
    rw [List.take_succ_eq_append_getElem hi, hn, List.replicate_succ, List.set_append_right _ _ (by omega), hti, Nat.sub_self, List.set_cons_zero, rows_append, List.append_assoc]
    rfl
  simp only [toS, laws_toRangeS.l0]
  simp only [encR] at h2 h4
  have e5 : IntKind.i64.wrap ((i : Int) + 1) = (i : Int) + 1 := wrap_i64 (by omega) (by omega)
  simp [hi, h2, h3, h4, rngs, rows_len, rows_at, encR, e5]

theorem laws_toRangeS.says (h : laws_toRangeS.k M) (l : List Range) (hl : l.length ≤ 1048576) : run M 334 [.c (rngs l)] [] = some (.c (.sl true 2 (rows l)), []) := by
  refine run_code (b := laws_toRangeS.m) h.1 ⟨l.length + 1, ?_⟩
  obtain ⟨r, hr, m, hp⟩ := loop_inv (f := exC (run M) (l.length + 1) laws_toRangeS.l0) (toS l) (fun r => ∃ m, r = (.exit 0, { t := [(0, .c (rngs l)), (3, .c (.row 7 49 0 l.length)), (4, .c (I l.length)), (11, .c (.bool false))], o := [(7, ⟨49, 2, true, false, rows l⟩)], n := m })) l.length
    (fun i hi x => laws_toRangeS.round h.2 _ l hl i hi x)
    (by intro x; simp [toS, laws_toRangeS.l0, rngs, rows_len])
    (l.length + 1) (by omega) 97
  subst hp
  have h0 : rows [] = [] := rfl
  have c1 : l.length ≤ 4294967296 := by omega
  have c2 : 16 * l.length ≤ 140737488355328 := by omega
  simp [toS, rngs, h0] at hr
  simp [exB, laws_toRangeS.m, laws_toRangeS.b, List.range_succ, rngs, rows_len, hr, c1, c2, List.take_of_length_le]

def eqS (l : List Range) (i : Nat) (x : Nat) : St := { t := [(0, .c (rngs l)), (1, .c (rngs l)), (5, .c (I i))], o := [], n := x }
theorem laws_eqRangeS.round (h : laws_eqRange.k M) (k : Nat) (l : List Range) (hl : l.length ≤ 1048576) (i : Nat) (hi : i < l.length) (x : Nat) : ∃ y, exC (run M) k laws_eqRangeS.l0 (eqS l i x) = some (.normal, eqS l (i + 1) y) := by
  have e5 : IntKind.i64.wrap ((i : Int) + 1) = (i : Int) + 1 := wrap_i64 (by omega) (by omega)
  have h2 := laws_eqRange.says h l[i]
  simp only [encR] at h2
  simp [eqS, laws_eqRangeS.l0, hi, h2, rngs, rows_len, rows_at, encR, e5]
theorem laws_eqRangeS.says (h : laws_eqRangeS.k M) (l : List Range) (hl : l.length ≤ 1048576) : run M 336 [.c (rngs l), .c (rngs l)] [] = some (.c (.bool true), []) := by
  refine run_code (b := laws_eqRangeS.m) h.1 ⟨l.length + 1, ?_⟩
  obtain ⟨r, hr, m, hp⟩ := loop_inv (f := exC (run M) (l.length + 1) laws_eqRangeS.l0) (eqS l) (fun r => ∃ m, r = (.exit 0, { t := [(0, .c (rngs l)), (1, .c (rngs l)), (5, .c (I l.length)), (14, .c (.bool false))], o := [], n := m })) l.length
    (fun i hi x => laws_eqRangeS.round h.2 _ l hl i hi x)
    (by intro x; simp [eqS, laws_eqRangeS.l0, rngs, rows_len])
    (l.length + 1) (by omega) 114
  subst hp
  simp [eqS, rngs] at hr
  simp [exB, laws_eqRangeS.m, laws_eqRangeS.b, List.range_succ, rngs, rows_len, hr]
theorem laws_szRangeS.says (h : laws_szRangeS.k M) (l : List Range) (hl : l.length ≤ 9223372036854775807) : run M 333 [.c (rngs l), .c (I 1048576)] [] = some (.c (I (if 1048576 < l.length then -1 else 1048576 - l.length)), []) := by
  refine run_code (b := laws_szRangeS.m) h ⟨0, ?_⟩
  have e5 : IntKind.i64.wrap (1048576 - (l.length : Int)) = 1048576 - (l.length : Int) := wrap_i64 (by omega) (by omega)
  by_cases h : 1048576 < l.length
  · have h1 : (1048576 : Int) - (l.length : Int) < 0 := by omega
    simp [exB, laws_szRangeS.m, laws_szRangeS.b, List.range_succ, rngs, rows_len, e5, h1, h]
  · have h1 : ¬ (1048576 : Int) - (l.length : Int) < 0 := by omega
    simp [exB, laws_szRangeS.m, laws_szRangeS.b, List.range_succ, rngs, rows_len, e5, h1, h]

def hit (n last : Int) (r : Range) : Bool :=
  let a := if r.a = 0 then last else r.a
  let b := if r.b = 0 then last else r.b
  if b < a then decide (b ≤ n) && decide (n ≤ a) else decide (a ≤ n) && decide (n ≤ b)
def inSet (l : List Range) (n last : Int) : Bool := decide (1 ≤ n) && l.any (hit n last)

def spI (l : List Range) (n last : Int) (i : Nat) (x : Nat) : St := { t := [(0, .c (rngs l)), (1, .c (I n)), (2, .c (I last)), (7, .c (I i))], o := [], n := x }
theorem spec_InSet.round (k : Nat) (l : List Range) (n last : Int) (hl : l.length ≤ 1048576) (i : Nat) (hi : i < l.length) (x : Nat) :
    if hit n last l[i] then ∃ y, exC (run M) k spec_InSet.l0 (spI l n last i x) = some (.ret, { t := [(6, .c (.bool true))], o := [], n := y })
    else ∃ y, exC (run M) k spec_InSet.l0 (spI l n last i x) = some (.normal, spI l n last (i + 1) y) := by
  have e5 : IntKind.i64.wrap ((i : Int) + 1) = (i : Int) + 1 := wrap_i64 (by omega) (by omega)
  by_cases ha : l[i].a = 0 <;> by_cases hb : l[i].b = 0 <;> by_cases hc : (if l[i].b = 0 then last else l[i].b) < (if l[i].a = 0 then last else l[i].a) <;>
    by_cases h1 : (if (if l[i].b = 0 then last else l[i].b) < (if l[i].a = 0 then last else l[i].a) then (if l[i].b = 0 then last else l[i].b) else (if l[i].a = 0 then last else l[i].a)) ≤ n <;>
    by_cases h2 : n ≤ (if (if l[i].b = 0 then last else l[i].b) < (if l[i].a = 0 then last else l[i].a) then (if l[i].a = 0 then last else l[i].a) else (if l[i].b = 0 then last else l[i].b)) <;>
    simp only [ha, hb, if_true, if_false] at hc h1 h2 <;> simp only [hc, if_true, if_false] at h1 h2 <;>
    simp [spI, spec_InSet.l0, hit, hi, rngs, rows_len, rows_at, encR, e5, ha, hb, hc, h1, h2]

theorem spec_InSet.says (h : spec_InSet.k M) (l : List Range) (n last : Int) (hl : l.length ≤ 1048576) : run M 327 [.c (rngs l), .c (I n), .c (I last)] [] = some (.c (.bool (inSet l n last)), []) := by
  obtain ⟨k, hk, hno, hend⟩ := first_split (hit n last) l
  obtain ⟨bb, hbb⟩ : ∃ b, l.any (hit n last) = b := ⟨_, rfl⟩
  rw [hbb] at hend
  refine run_code (b := spec_InSet.m) h ⟨k + 1, ?_⟩
  by_cases hn : n < 1
  · have : ¬ 1 ≤ n := by omega
    simp [exB, spec_InSet.m, spec_InSet.b, List.range_succ, inSet, hn, this]
  have hn' : 1 ≤ n := by omega
  obtain ⟨r, hr, hp⟩ := loop_inv (f := exC (run M) (k + 1) spec_InSet.l0) (spI l n last) (fun r => ∃ m, r = if bb = true then (.ret, { t := [(6, .c (.bool true))], o := [], n := m }) else (.exit 0, { t := [(0, .c (rngs l)), (1, .c (I n)), (2, .c (I last)), (7, .c (I l.length)), (15, .c (.bool false))], o := [], n := m })) k
    (fun i hi x => by have := spec_InSet.round (M := M) (k + 1) l n last hl i (by omega) x; rw [hno i (by omega) hi] at this; simpa using this)
    (by
      intro x
      rcases hend with ⟨rfl, h⟩ | ⟨h1, h2, h3⟩
      · simp [spI, spec_InSet.l0, rngs, rows_len, h]
      · have := spec_InSet.round (M := M) (k + 1) l n last hl k h1 x
        rw [h2, if_pos rfl] at this
        obtain ⟨y, hy⟩ := this
        exact ⟨_, hy, by simp, y, by rw [h3, if_pos rfl]⟩)
    (k + 1) (by omega) 67
  obtain ⟨m, rfl⟩ := hp
  simp [spI, rngs] at hr
  cases bb with
  | true =>
    simp only [if_true] at hr
    simp [exB, spec_InSet.m, spec_InSet.b, List.range_succ, inSet, hn, hn', rngs, hr, hbb, -List.any_eq_true]
  | false =>
    simp only [Bool.false_eq_true, if_false] at hr
    simp [exB, spec_InSet.m, spec_InSet.b, List.range_succ, inSet, hn, hn', rngs, hr, hbb, -List.any_eq_true]

def imI (l : List Range) (n last : Int) (i : Nat) (x : Nat) : St := { t := [(1, .c (I n)), (2, .c (I last)), (11, .c (rngs l)), (12, .c (I l.length)), (13, .c (I i))], o := [], n := x }
theorem hit_min (n last : Int) (r : Range) : hit n last r = (decide ((if (if r.b = 0 then last else r.b) < (if r.a = 0 then last else r.a) then (if r.b = 0 then last else r.b) else (if r.a = 0 then last else r.a)) ≤ n) && decide (n ≤ (if (if r.b = 0 then last else r.b) > (if r.a = 0 then last else r.a) then (if r.b = 0 then last else r.b) else (if r.a = 0 then last else r.a)))) := by
  unfold hit
  generalize (if r.a = 0 then last else r.a) = a
  generalize (if r.b = 0 then last else r.b) = b
  by_cases h : b < a
  · have h' : ¬ b > a := by omega
    simp only [h, h', if_true, if_false]
  · by_cases h2 : b > a
    · simp only [h, h2, if_true, if_false]
    · have : a = b := by omega
      subst this
      simp
theorem impl_InSet.round (h : impl_InSet.k M) (k : Nat) (l : List Range) (n last : Int) (hl : l.length ≤ 1048576) (i : Nat) (hi : i < l.length) (x : Nat) :
    if decide (1 ≤ n) && hit n last l[i] then ∃ y, exC (run M) k impl_InSet.l0 (imI l n last i x) = some (.ret, { t := [(6, .c (.bool true))], o := [], n := y })
    else ∃ y, exC (run M) k impl_InSet.l0 (imI l n last i x) = some (.normal, imI l n last (i + 1) y) := by
  have e5 : IntKind.i64.wrap ((i : Int) + 1) = (i : Int) + 1 := wrap_i64 (by omega) (by omega)
  have hw := impl_within.says h.2 n (if (if l[i].b = 0 then last else l[i].b) < (if l[i].a = 0 then last else l[i].a) then (if l[i].b = 0 then last else l[i].b) else (if l[i].a = 0 then last else l[i].a)) (if (if l[i].b = 0 then last else l[i].b) > (if l[i].a = 0 then last else l[i].a) then (if l[i].b = 0 then last else l[i].b) else (if l[i].a = 0 then last else l[i].a))
  rw [← hit_min] at hw
  by_cases hn : 1 ≤ n
  · have hn0 : 0 < n := by omega
    cases hh : hit n last l[i] <;> rw [hh] at hw <;> by_cases ha : l[i].a = 0 <;> by_cases hb : l[i].b = 0 <;> simp only [ha, hb, if_true, if_false, gt_iff_lt, ite_self] at hw <;>
      simp [imI, impl_InSet.l0, hi, rngs, rows_len, rows_at, encR, e5, ha, hb, hw, hn, hn0]
  · have hn0 : ¬ 0 < n := by omega
    by_cases ha : l[i].a = 0 <;> by_cases hb : l[i].b = 0 <;>
    simp [imI, impl_InSet.l0, hi, rngs, rows_len, rows_at, encR, e5, ha, hb, hn, hn0]

theorem impl_InSet.says (h : impl_InSet.k M) (l : List Range) (n last : Int) (hl : l.length ≤ 1048576) : run M 335 [.c (rngs l), .c (I n), .c (I last)] [] = some (.c (.bool (inSet l n last)), []) := by
  obtain ⟨k, hk, hno, hend⟩ := first_split (fun r => decide (1 ≤ n) && hit n last r) l
  have hinS : inSet l n last = l.any (fun r => decide (1 ≤ n) && hit n last r) := by
    unfold inSet
    by_cases h : 1 ≤ n <;> simp [h]
  obtain ⟨bb, hbb⟩ : ∃ b, l.any (fun r => decide (1 ≤ n) && hit n last r) = b := ⟨_, rfl⟩
  rw [hinS]
  rw [hbb] at hend ⊢
  refine run_code (b := impl_InSet.m) h.1 ⟨k + 1, ?_⟩
  obtain ⟨r, hr, hp⟩ := loop_inv (f := exC (run M) (k + 1) impl_InSet.l0) (imI l n last) (fun r => ∃ m, r = if bb = true then (.ret, { t := [(6, .c (.bool true))], o := [], n := m }) else (.exit 0, { t := [(1, .c (I n)), (2, .c (I last)), (11, .c (rngs l)), (12, .c (I l.length)), (13, .c (I l.length)), (14, .c (.bool false))], o := [], n := m })) k
    (fun i hi x => by have := impl_InSet.round h (k + 1) l n last hl i (by omega) x; rw [hno i (by omega) hi] at this; simpa using this)
    (by
      intro x
      rcases hend with ⟨rfl, h⟩ | ⟨h1, h2, h3⟩
      · simp [imI, impl_InSet.l0, rngs, rows_len, h]
      · have := impl_InSet.round h (k + 1) l n last hl k h1 x
        rw [h2, if_pos rfl] at this
        obtain ⟨y, hy⟩ := this
        exact ⟨_, hy, by simp, y, by rw [h3, if_pos rfl]⟩)
    (k + 1) (by omega) 67
  obtain ⟨m, rfl⟩ := hp
  simp [imI, rngs] at hr
  cases bb with
  | true =>
    simp only [if_true] at hr
    simp [exB, impl_InSet.m, impl_InSet.b, List.range_succ, rngs, rows_len, hr]
  | false =>
    simp only [Bool.false_eq_true, if_false] at hr
    simp [exB, impl_InSet.m, impl_InSet.b, List.range_succ, rngs, rows_len, hr]

theorem has_range {r : List T} (h : HasL [.int .i64, .int .i64] r) : ∃ x : Range, r = encR x := by
  match r, h with
  | [a, b], h =>
    have h1 := h.2 0 _ a rfl rfl
    have h2 := h.2 1 _ b rfl rfl
    cases h1; cases h2
    exact ⟨⟨_, _⟩, rfl⟩
theorem has_rows {rows' : List (List T)} (h : ∀ r ∈ rows', HasL [.int .i64, .int .i64] r) : ∃ l : List Range, rows' = rows l := by
  induction rows' with
  | nil => exact ⟨[], rfl⟩
  | cons r rs ih =>
    obtain ⟨x, rfl⟩ := has_range (h r (List.mem_cons_self ..))
    obtain ⟨l, rfl⟩ := ih fun r hr => h r (List.mem_cons_of_mem _ hr)
    exact ⟨x :: l, rfl⟩
end Mx

/-
  Small codes: laws.eqIntS, laws.markIntS, laws.heldIntS, laws.szIntS, laws.toIntS.
-/
namespace Mx
open Go
def laws_eqIntS.l0 : C := .seq (.seq (.reg [⟨some 11, .mv (.t 5), none⟩,
    ⟨some 12, .mv (.t 0), none⟩,
    ⟨some 13, .len (.t 12), none⟩,
    ⟨some 14, .bin .lss (.t 11) (.t 13), none⟩] [0, 1, 5, 14] [])
  (.cond (.t 14) (.skip) (.exit 0)))
  (.seq (.block 1 (.seq (.regd [⟨some 17, .mv (.t 0), none⟩,
    ⟨some 18, .mv (.t 5), none⟩,
    ⟨some 19, .iaddr 1 (.t 17) (.t 18), none⟩,
    ⟨some 20, .load false 1 (.t 19), none⟩,
    ⟨some 21, .mv (.t 1), none⟩,
    ⟨some 22, .mv (.t 5), none⟩,
    ⟨some 23, .iaddr 1 (.t 21) (.t 22), none⟩,
    ⟨some 24, .load false 1 (.t 23), none⟩,
    ⟨some 25, .bin .neq (.t 20) (.t 24), none⟩] [[], [], [0, 1], [0, 1, 2], [], [], [4, 5], [4, 5, 6], [0, 1, 2, 3, 4, 5, 6, 7]] [0, 1, 5, 25] [])
  (.cond (.t 25) (.seq (.reg [⟨some 4, .mv (.k (.bool false)), none⟩] [4] [])
  (.ret)) (.skip))))
  (.reg [⟨some 15, .mv (.t 5), none⟩,
    ⟨some 16, .bin .add (.t 15) (.k (.int .i64 1)), none⟩,
    ⟨some 5, .mv (.t 16), none⟩] [0, 1, 5] []))
def laws_eqIntS.b : C := .seq (.reg [⟨some 4, .mv (.k (.bool false)), none⟩] [0, 1] [])
  (.seq (.seq (.reg [⟨some 6, .mv (.t 0), none⟩,
    ⟨some 7, .len (.t 6), none⟩,
    ⟨some 8, .mv (.t 1), none⟩,
    ⟨some 9, .len (.t 8), none⟩,
    ⟨some 10, .bin .neq (.t 7) (.t 9), none⟩] [0, 1, 10] [])
  (.cond (.t 10) (.seq (.reg [⟨some 4, .mv (.k (.bool false)), none⟩] [4] [])
  (.ret)) (.skip)))
  (.seq (.seq (.reg [⟨some 5, .mv (.k (.int .i64 0)), none⟩] [0, 1, 5] [])
  (.block 0 (.loop laws_eqIntS.l0)))
  (.seq (.reg [⟨some 4, .mv (.k (.bool true)), none⟩] [4] [])
  (.ret))))
def laws_eqIntS.m : Fn := { np := 2, body := laws_eqIntS.b, res := [.tmp 4] }
def laws_eqIntS.k (M : Nat → Option Body) : Prop := M 45 = some (.code laws_eqIntS.m)
def laws_markIntS.l0 : C := .seq (.seq (.reg [⟨some 6, .mv (.t 5), none⟩,
    ⟨some 7, .mv (.t 0), none⟩,
    ⟨some 8, .len (.t 7), none⟩,
    ⟨some 9, .bin .lss (.t 6) (.t 8), none⟩] [0, 1, 5, 9] [0])
  (.cond (.t 9) (.skip) (.exit 0)))
  (.seq (.block 1 (.seq (.reg [⟨some 12, .mv (.t 0), none⟩,
    ⟨some 13, .mv (.t 5), none⟩,
    ⟨some 14, .mv (.t 1), none⟩,
    ⟨some 15, .iaddr 1 (.t 12) (.t 13), none⟩,
    ⟨none, .store 1 (.t 15) (.t 14), none⟩] [0, 1, 5] [0])
  (.reg [⟨some 16, .mv (.t 1), none⟩,
    ⟨some 17, .bin .add (.t 16) (.k (.int .i64 1)), none⟩,
    ⟨some 1, .mv (.t 17), none⟩] [0, 1, 5] [0])))
  (.reg [⟨some 10, .mv (.t 5), none⟩,
    ⟨some 11, .bin .add (.t 10) (.k (.int .i64 1)), none⟩,
    ⟨some 5, .mv (.t 11), none⟩] [0, 1, 5] [0]))
def laws_markIntS.b : C := .seq (.reg [⟨some 4, .mv (.k (.int .i64 0)), none⟩] [0, 1] [0])
  (.seq (.seq (.reg [⟨some 5, .mv (.k (.int .i64 0)), none⟩] [0, 1, 5] [0])
  (.block 0 (.loop laws_markIntS.l0)))
  (.seq (.reg [⟨some 18, .mv (.t 1), none⟩,
    ⟨some 4, .mv (.t 18), none⟩] [4] [0])
  (.ret)))
def laws_markIntS.m : Fn := { np := 2, body := laws_markIntS.b, res := [.tmp 4] }
def laws_markIntS.k (M : Nat → Option Body) : Prop := M 46 = some (.code laws_markIntS.m)
def laws_heldIntS.l0 : C := .seq (.seq (.reg [⟨some 6, .mv (.t 5), none⟩,
    ⟨some 7, .mv (.t 0), none⟩,
    ⟨some 8, .len (.t 7), none⟩,
    ⟨some 9, .bin .lss (.t 6) (.t 8), none⟩] [0, 1, 5, 9] [])
  (.cond (.t 9) (.skip) (.exit 0)))
  (.seq (.block 1 (.seq (.seq (.reg [⟨some 12, .mv (.t 0), none⟩,
    ⟨some 13, .mv (.t 5), none⟩,
    ⟨some 14, .iaddr 1 (.t 12) (.t 13), none⟩,
    ⟨some 15, .load false 1 (.t 14), none⟩,
    ⟨some 16, .mv (.t 1), none⟩,
    ⟨some 17, .bin .neq (.t 15) (.t 16), none⟩] [0, 1, 5, 17] [])
  (.cond (.t 17) (.seq (.reg [⟨some 4, .mv (.k (.int .i64 (-1))), none⟩] [4] [])
  (.ret)) (.skip)))
  (.reg [⟨some 18, .mv (.t 1), none⟩,
    ⟨some 19, .bin .add (.t 18) (.k (.int .i64 1)), none⟩,
    ⟨some 1, .mv (.t 19), none⟩] [0, 1, 5] [])))
  (.reg [⟨some 10, .mv (.t 5), none⟩,
    ⟨some 11, .bin .add (.t 10) (.k (.int .i64 1)), none⟩,
    ⟨some 5, .mv (.t 11), none⟩] [0, 1, 5] []))
def laws_heldIntS.b : C := .seq (.reg [⟨some 4, .mv (.k (.int .i64 0)), none⟩] [0, 1] [])
  (.seq (.seq (.reg [⟨some 5, .mv (.k (.int .i64 0)), none⟩] [0, 1, 5] [])
  (.block 0 (.loop laws_heldIntS.l0)))
  (.seq (.reg [⟨some 20, .mv (.t 1), none⟩,
    ⟨some 4, .mv (.t 20), none⟩] [4] [])
  (.ret)))
def laws_heldIntS.m : Fn := { np := 2, body := laws_heldIntS.b, res := [.tmp 4] }
def laws_heldIntS.k (M : Nat → Option Body) : Prop := M 47 = some (.code laws_heldIntS.m)
def laws_szIntS.b : C := .seq (.reg [⟨some 4, .mv (.k (.int .i64 0)), none⟩] [0, 1] [])
  (.seq (.reg [⟨some 5, .mv (.t 1), none⟩,
    ⟨some 6, .mv (.t 0), none⟩,
    ⟨some 7, .len (.t 6), none⟩,
    ⟨some 8, .bin .sub (.t 5) (.t 7), none⟩,
    ⟨some 1, .mv (.t 8), none⟩] [1] [])
  (.seq (.seq (.reg [⟨some 9, .mv (.t 1), none⟩,
    ⟨some 10, .bin .lss (.t 9) (.k (.int .i64 0)), none⟩] [1, 10] [])
  (.cond (.t 10) (.seq (.reg [⟨some 4, .mv (.k (.int .i64 (-1))), none⟩] [4] [])
  (.ret)) (.skip)))
  (.seq (.reg [⟨some 11, .mv (.t 1), none⟩,
    ⟨some 4, .mv (.t 11), none⟩] [4] [])
  (.ret))))
def laws_szIntS.m : Fn := { np := 2, body := laws_szIntS.b, res := [.tmp 4] }
def laws_szIntS.k (M : Nat → Option Body) : Prop := M 108 = some (.code laws_szIntS.m)
def laws_toIntS.l0 : C := .seq (.seq (.reg [⟨some 8, .mv (.t 4), none⟩,
    ⟨some 9, .mv (.t 0), none⟩,
    ⟨some 10, .len (.t 9), none⟩,
    ⟨some 11, .bin .lss (.t 8) (.t 10), none⟩] [0, 3, 4, 11] [7])
  (.cond (.t 11) (.skip) (.exit 0)))
  (.seq (.block 1 (.reg [⟨some 14, .mv (.t 3), none⟩,
    ⟨some 15, .mv (.t 4), none⟩,
    ⟨some 16, .mv (.t 0), none⟩,
    ⟨some 17, .mv (.t 4), none⟩,
    ⟨some 18, .iaddr 1 (.t 16) (.t 17), none⟩,
    ⟨some 19, .load false 1 (.t 18), none⟩,
    ⟨some 20, .iaddr 1 (.t 14) (.t 15), none⟩,
    ⟨none, .store 1 (.t 20) (.t 19), none⟩] [0, 3, 4] [7]))
  (.reg [⟨some 12, .mv (.t 4), none⟩,
    ⟨some 13, .bin .add (.t 12) (.k (.int .i64 1)), none⟩,
    ⟨some 4, .mv (.t 13), none⟩] [0, 3, 4] [7]))
def laws_toIntS.b : C := .seq (.reg [⟨some 2, .nil 1, none⟩] [0] [])
  (.seq (.reg [⟨some 5, .mv (.t 0), none⟩,
    ⟨some 6, .len (.t 5), none⟩,
    ⟨some 7, .mks 1 8 [.int .i64 0] (.t 6), none⟩,
    ⟨some 3, .mv (.t 7), none⟩] [0, 3] [7])
  (.seq (.seq (.reg [⟨some 4, .mv (.k (.int .i64 0)), none⟩] [0, 3, 4] [7])
  (.block 0 (.loop laws_toIntS.l0)))
  (.seq (.reg [⟨some 21, .mv (.t 3), none⟩,
    ⟨some 2, .mv (.t 21), none⟩] [2] [2, 7])
  (.ret))))
def laws_toIntS.m : Fn := { np := 1, body := laws_toIntS.b, res := [.tmp 2] }
def laws_toIntS.k (M : Nat → Option Body) : Prop := M 42 = some (.code laws_toIntS.m)
end Mx

/-
  Numbers: what is laid over, held against, weighed, marked.
-/
namespace Mx
open Go
variable {M : Nat → Option Body}
def irow (l : List Int) : List (List T) := l.map fun n => [I n]
abbrev ints (l : List Int) : T := .sl false 1 (irow l)
theorem irow_len (l : List Int) : (irow l).length = l.length := by simp [irow]
theorem irow_at (l : List Int) (i : Nat) (h : i < (irow l).length) : (irow l)[i] = [I (l[i]'(by simpa [irow] using h))] := by simp [irow]
theorem irow_append (a b : List Int) : irow a ++ irow b = irow (a ++ b) := by simp [irow]
theorem irow_nil : irow [] = [] := rfl
theorem irow_take (l : List Int) (n : Nat) : (irow l).take n = irow (l.take n) := by simp [irow]
attribute [simp] irow_len irow_at irow_append irow_nil irow_take
/-- k, k+1, .. -/
def upto (k : Int) : Nat → List Int
  | 0 => []
  | n + 1 => upto k n ++ [k + n]
theorem upto_len (k : Int) (n : Nat) : (upto k n).length = n := by
  induction n with
  | zero => rfl
  | succ n ih => simp [upto, ih]
attribute [simp] upto_len
theorem upto_at (k : Int) (n i : Nat) (h : i < n) (h' : i < (upto k n).length) : (upto k n)[i] = k + i := by
  induction n with
  | zero => omega
  | succ n ih =>
    simp only [upto]
    by_cases e : i < n
    · rw [List.getElem_append_left (by simpa using e)]; exact ih e _
    · have : i = n := by omega
      subst this
      rw [List.getElem_append_right (by simp)]; simp

def eqI (l : List Int) (i : Nat) (x : Nat) : St := { t := [(0, .c (ints l)), (1, .c (ints l)), (5, .c (I i))], o := [], n := x }
theorem laws_eqIntS.says (h : laws_eqIntS.k M) (l : List Int) (hl : l.length ≤ 4611686018427387904) : run M 45 [.c (ints l), .c (ints l)] [] = some (.c (.bool true), []) := by
  refine run_code (b := laws_eqIntS.m) h ⟨l.length + 1, ?_⟩
  obtain ⟨g, hr⟩ := loop_all (f := exC (run M) (l.length + 1) laws_eqIntS.l0) (eqI l) (fun i => i ≤ l.length) (fun i => l.length - i) (fun _ => ())
    (fun _ m => (.exit 0, { t := [(0, .c (ints l)), (1, .c (ints l)), (5, .c (I l.length)), (14, .c (.bool false))], o := [], n := m }))
    (by
      intro i x hi
      by_cases hlt : i < l.length
      · have e5 : IntKind.i64.wrap ((i : Int) + 1) = (i : Int) + 1 := wrap_i64 (by omega) (by omega)
        obtain ⟨y, hy⟩ : ∃ y, exC (run M) (l.length + 1) laws_eqIntS.l0 (eqI l i x) = some (.normal, eqI l (i + 1) y) := by simp [eqI, laws_eqIntS.l0, hlt, e5]
        exact .inl ⟨i + 1, y, hy, hlt, by omega, rfl⟩
      · have : i = l.length := by omega
        subst this
        exact .inr ⟨x + 64, by simp [eqI, laws_eqIntS.l0], by simp⟩)
    (l.length + 1) 0 (Nat.zero_le _) (by omega)
  simp [eqI] at hr
  simp [exB, laws_eqIntS.m, laws_eqIntS.b, List.range_succ, hr]

theorem set_mid {α : Type} (a : List α) (x : α) (b : List α) (n : Nat) (h : a.length = n) (y : α) : (a ++ x :: b).set n y = a ++ y :: b := by
  subst h; simp
theorem at_mid {α : Type} (a : List α) (x : α) (b : List α) (n : Nat) (h : a.length = n) : (a ++ x :: b)[n]? = some x := by
  subst h; simp
def mkI (k : Int) (l : List Int) (i : Nat) (x : Nat) : St := { t := [(0, .c (.row 0 0 0 l.length)), (1, .c (I (k + i))), (5, .c (I i))], o := [(0, ⟨0, 1, true, false, irow (upto k i ++ l.drop i)⟩)], n := x }
theorem laws_markIntS.says (h : laws_markIntS.k M) (l : List Int) (k : Int) (hk : -9223372036854775808 ≤ k) (hl : k + l.length ≤ 9223372036854775807) (hl2 : l.length ≤ 4611686018427387904) :
    run M 46 [.c (.row 0 0 0 l.length), .c (I k)] [(0, ⟨0, 1, true, false, irow l⟩)] = some (.c (I (k + l.length)), [(0, ⟨0, 1, true, false, irow (upto k l.length)⟩)]) := by
  refine run_code (b := laws_markIntS.m) h ⟨l.length + 1, ?_⟩
  obtain ⟨g, hr⟩ := loop_all (f := exC (run M) (l.length + 1) laws_markIntS.l0) (mkI k l) (fun i => i ≤ l.length) (fun i => l.length - i) (fun _ => ())
    (fun _ m => (.exit 0, { t := [(0, .c (.row 0 0 0 l.length)), (1, .c (I (k + l.length))), (5, .c (I l.length)), (9, .c (.bool false))], o := [(0, ⟨0, 1, true, false, irow (upto k l.length)⟩)], n := m }))
    (by
      intro i x hi
      by_cases hlt : i < l.length
      · have e5 : IntKind.i64.wrap ((i : Int) + 1) = (i : Int) + 1 := wrap_i64 (by omega) (by omega)
        have e6 : IntKind.i64.wrap (k + (i : Int) + 1) = k + (i : Int) + 1 := wrap_i64 (by omega) (by omega)
        have e7 : k + ((i : Int) + 1) = k + (i : Int) + 1 := by omega
        have e8 : i + (l.length - i) = l.length := by omega
        have hd := List.drop_eq_getElem_cons hlt
        have h3 : (irow (upto k i ++ l.drop i))[i]? = some [I l[i]] := by
          rw [hd]; simp only [irow, List.map_append, List.map_cons]; exact at_mid _ _ _ _ (by simp)
        have h3' : ∀ h, (irow (upto k i ++ l.drop i))[i]'h = [I l[i]] := fun h => by rw [List.getElem?_eq_getElem h] at h3; exact Option.some.inj h3
        have h4 : (irow (upto k i ++ l.drop i)).set i [I (k + i)] = irow (upto k (i + 1) ++ l.drop (i + 1)) := by
          rw [hd]; simp only [irow, List.map_append, List.map_cons, upto, List.append_assoc, List.cons_append, List.nil_append, List.map_nil]; exact set_mid _ _ _ _ (by simp) _
        obtain ⟨y, hy⟩ : ∃ y, exC (run M) (l.length + 1) laws_markIntS.l0 (mkI k l i x) = some (.normal, mkI k l (i + 1) y) := by
          simp [mkI, laws_markIntS.l0, hlt, e5, e6, e7, e8, h3', h4, setAt, -irow_at]
        exact .inl ⟨i + 1, y, hy, hlt, by omega, rfl⟩
      · have : i = l.length := by omega
        subst this
        exact .inr ⟨x + 64, by simp [mkI, laws_markIntS.l0], by simp⟩)
    (l.length + 1) 0 (Nat.zero_le _) (by omega)
  simp [mkI, upto] at hr
  simp [exB, laws_markIntS.m, laws_markIntS.b, List.range_succ, hr]

def heI (k : Int) (n : Nat) (i : Nat) (x : Nat) : St := { t := [(0, .c (ints (upto k n))), (1, .c (I (k + i))), (5, .c (I i))], o := [], n := x }
theorem laws_heldIntS.says (h : laws_heldIntS.k M) (n : Nat) (k : Int) (hk : -9223372036854775808 ≤ k) (hl : k + n ≤ 9223372036854775807) (hl2 : n ≤ 4611686018427387904) :
    run M 47 [.c (ints (upto k n)), .c (I k)] [] = some (.c (I (k + n)), []) := by
  refine run_code (b := laws_heldIntS.m) h ⟨n + 1, ?_⟩
  obtain ⟨g, hr⟩ := loop_all (f := exC (run M) (n + 1) laws_heldIntS.l0) (heI k n) (fun i => i ≤ n) (fun i => n - i) (fun _ => ())
    (fun _ m => (.exit 0, { t := [(0, .c (ints (upto k n))), (1, .c (I (k + n))), (5, .c (I n)), (9, .c (.bool false))], o := [], n := m }))
    (by
      intro i x hi
      by_cases hlt : i < n
      · have e5 : IntKind.i64.wrap ((i : Int) + 1) = (i : Int) + 1 := wrap_i64 (by omega) (by omega)
        have e6 : IntKind.i64.wrap (k + (i : Int) + 1) = k + (i : Int) + 1 := wrap_i64 (by omega) (by omega)
        have e7 : k + ((i : Int) + 1) = k + (i : Int) + 1 := by omega
        have e8 := upto_at k n i hlt (by simpa using hlt)
        obtain ⟨y, hy⟩ : ∃ y, exC (run M) (n + 1) laws_heldIntS.l0 (heI k n i x) = some (.normal, heI k n (i + 1) y) := by
          simp [heI, laws_heldIntS.l0, hlt, e5, e6, e7, e8]
        exact .inl ⟨i + 1, y, hy, hlt, by omega, rfl⟩
      · have : i = n := by omega
        subst this
        exact .inr ⟨x + 64, by simp [heI, laws_heldIntS.l0], by simp⟩)
    (n + 1) 0 (Nat.zero_le _) (by omega)
  simp [heI] at hr
  simp [exB, laws_heldIntS.m, laws_heldIntS.b, List.range_succ, hr]
theorem irow_flat (l : List Int) : (irow l).all (fun r => r.all T.scalar) = true := by
  simp only [irow, List.all_map, List.all_eq_true]
  intro n _; rfl
attribute [simp] irow_flat
end Mx

/-
  Small codes: laws.markRangeS, spec.Picked, impl.Picked, laws.FnExactPicked.
-/
namespace Mx
open Go
def laws_markRangeS.l0 : C := .seq (.seq (.reg [⟨some 6, .mv (.t 5), none⟩,
    ⟨some 7, .mv (.t 0), none⟩,
    ⟨some 8, .len (.t 7), none⟩,
    ⟨some 9, .bin .lss (.t 6) (.t 8), none⟩] [0, 1, 5, 9] [0])
  (.cond (.t 9) (.skip) (.exit 0)))
  (.seq (.block 1 (.seq (.reg [⟨some 12, .mv (.t 0), none⟩,
    ⟨some 13, .mv (.t 5), none⟩,
    ⟨some 14, .mv (.t 1), none⟩,
    ⟨some 15, .iaddr 2 (.t 12) (.t 13), none⟩,
    ⟨some 16, .faddr 0 (.t 15), none⟩,
    ⟨none, .store 1 (.t 16) (.t 14), none⟩] [0, 1, 5] [0])
  (.seq (.reg [⟨some 17, .mv (.t 1), none⟩,
    ⟨some 18, .bin .add (.t 17) (.k (.int .i64 1)), none⟩,
    ⟨some 1, .mv (.t 18), none⟩] [0, 1, 5] [0])
  (.seq (.reg [⟨some 19, .mv (.t 0), none⟩,
    ⟨some 20, .mv (.t 5), none⟩,
    ⟨some 21, .mv (.t 1), none⟩,
    ⟨some 22, .iaddr 2 (.t 19) (.t 20), none⟩,
    ⟨some 23, .faddr 1 (.t 22), none⟩,
    ⟨none, .store 1 (.t 23) (.t 21), none⟩] [0, 1, 5] [0])
  (.reg [⟨some 24, .mv (.t 1), none⟩,
    ⟨some 25, .bin .add (.t 24) (.k (.int .i64 1)), none⟩,
    ⟨some 1, .mv (.t 25), none⟩] [0, 1, 5] [0])))))
  (.reg [⟨some 10, .mv (.t 5), none⟩,
    ⟨some 11, .bin .add (.t 10) (.k (.int .i64 1)), none⟩,
    ⟨some 5, .mv (.t 11), none⟩] [0, 1, 5] [0]))
def laws_markRangeS.b : C := .seq (.reg [⟨some 4, .mv (.k (.int .i64 0)), none⟩] [0, 1] [0])
  (.seq (.seq (.reg [⟨some 5, .mv (.k (.int .i64 0)), none⟩] [0, 1, 5] [0])
  (.block 0 (.loop laws_markRangeS.l0)))
  (.seq (.reg [⟨some 26, .mv (.t 1), none⟩,
    ⟨some 4, .mv (.t 26), none⟩] [4] [0])
  (.ret)))
def laws_markRangeS.m : Fn := { np := 2, body := laws_markRangeS.b, res := [.tmp 4] }
def laws_markRangeS.k (M : Nat → Option Body) : Prop := M 345 = some (.code laws_markRangeS.m)
def spec_Picked.l0 : C := .seq (.seq (.reg [⟨some 8, .mv (.t 6), none⟩,
    ⟨some 9, .mv (.t 1), none⟩,
    ⟨some 10, .bin .leq (.t 8) (.t 9), none⟩,
    ⟨some 11, .mv (.t 10), none⟩,
    ⟨some 12, .mv (.t 6), some (11, true)⟩,
    ⟨some 13, .bin .leq (.t 12) (.k (.int .i64 100)), some (11, true)⟩,
    ⟨some 14, .pick (.t 11) (.t 13) (.k (.bool false)), none⟩] [0, 1, 5, 6, 14] [7, 24])
  (.cond (.t 14) (.skip) (.exit 0)))
  (.seq (.block 1 (.seq (.reg [⟨some 17, .mv (.t 0), none⟩,
    ⟨some 18, .mv (.t 6), none⟩,
    ⟨some 19, .mv (.t 1), none⟩,
    ⟨some 20, .call 327 [.t 17, .t 18, .t 19] [] [], none⟩] [0, 1, 5, 6, 20] [7, 24])
  (.cond (.t 20) (.reg [⟨some 21, .mv (.t 5), none⟩,
    ⟨some 22, .mv (.t 6), none⟩,
    ⟨some 23, .bslice 1 1 [.int .i64 0] [(0, .t 22)], none⟩,
    ⟨some 24, .app 1 8 (.t 21) (.t 23), none⟩,
    ⟨some 5, .mv (.t 24), none⟩] [0, 1, 5, 6] [7, 24]) (.skip))))
  (.reg [⟨some 15, .mv (.t 6), none⟩,
    ⟨some 16, .bin .add (.t 15) (.k (.int .i64 1)), none⟩,
    ⟨some 6, .mv (.t 16), none⟩] [0, 1, 5, 6] [7, 24]))
def spec_Picked.b : C := .seq (.reg [⟨some 4, .nil 1, none⟩] [0, 1] [])
  (.seq (.reg [⟨some 7, .bslice 1 0 [.int .i64 0] [], none⟩,
    ⟨some 5, .mv (.t 7), none⟩] [0, 1, 5] [7, 24])
  (.seq (.seq (.reg [⟨some 6, .mv (.k (.int .i64 1)), none⟩] [0, 1, 5, 6] [7, 24])
  (.block 0 (.loop spec_Picked.l0)))
  (.seq (.reg [⟨some 25, .mv (.t 5), none⟩,
    ⟨some 4, .mv (.t 25), none⟩] [4] [4, 7, 24])
  (.ret))))
def spec_Picked.m : Fn := { np := 2, body := spec_Picked.b, res := [.tmp 4] }
def spec_Picked.k (M : Nat → Option Body) : Prop := M 323 = some (.code spec_Picked.m) ∧ spec_InSet.k M
def impl_Picked.l0 : C := .seq (.seq (.reg [⟨some 8, .mv (.t 6), none⟩,
    ⟨some 9, .mv (.t 1), none⟩,
    ⟨some 10, .min (.t 9) (.k (.int .i64 100)), none⟩,
    ⟨some 11, .bin .leq (.t 8) (.t 10), none⟩] [0, 1, 5, 6, 11] [7, 21])
  (.cond (.t 11) (.skip) (.exit 0)))
  (.seq (.block 1 (.seq (.reg [⟨some 14, .mv (.t 0), none⟩,
    ⟨some 15, .mv (.t 6), none⟩,
    ⟨some 16, .mv (.t 1), none⟩,
    ⟨some 17, .call 335 [.t 14, .t 15, .t 16] [] [], none⟩] [0, 1, 5, 6, 17] [7, 21])
  (.cond (.t 17) (.reg [⟨some 18, .mv (.t 5), none⟩,
    ⟨some 19, .mv (.t 6), none⟩,
    ⟨some 20, .bslice 1 1 [.int .i64 0] [(0, .t 19)], none⟩,
    ⟨some 21, .app 1 8 (.t 18) (.t 20), none⟩,
    ⟨some 5, .mv (.t 21), none⟩] [0, 1, 5, 6] [7, 21]) (.skip))))
  (.reg [⟨some 12, .mv (.t 6), none⟩,
    ⟨some 13, .bin .add (.t 12) (.k (.int .i64 1)), none⟩,
    ⟨some 6, .mv (.t 13), none⟩] [0, 1, 5, 6] [7, 21]))
def impl_Picked.b : C := .seq (.reg [⟨some 4, .nil 1, none⟩] [0, 1] [])
  (.seq (.reg [⟨some 7, .bslice 1 0 [.int .i64 0] [], none⟩,
    ⟨some 5, .mv (.t 7), none⟩] [0, 1, 5] [7, 21])
  (.seq (.seq (.reg [⟨some 6, .mv (.k (.int .i64 1)), none⟩] [0, 1, 5, 6] [7, 21])
  (.block 0 (.loop impl_Picked.l0)))
  (.seq (.reg [⟨some 22, .mv (.t 5), none⟩,
    ⟨some 4, .mv (.t 22), none⟩] [4] [4, 7, 21])
  (.ret))))
def impl_Picked.m : Fn := { np := 2, body := impl_Picked.b, res := [.tmp 4] }
def impl_Picked.k (M : Nat → Option Body) : Prop := M 344 = some (.code impl_Picked.m) ∧ impl_InSet.k M
def laws_FnExactPicked.b : C := .seq (.reg [⟨some 4, .mv (.k (.bool false)), none⟩] [0, 1] [])
  (.seq (.reg [⟨some 5, .mv (.k (.int .i64 1048576)), none⟩] [0, 1, 5] [])
  (.seq (.reg [⟨some 13, .mv (.t 0), none⟩,
    ⟨some 14, .mv (.t 5), none⟩,
    ⟨some 15, .call 333 [.t 13, .t 14] [] [], none⟩,
    ⟨some 5, .mv (.t 15), none⟩] [0, 1, 5] [])
  (.seq (.seq (.reg [⟨some 16, .mv (.t 5), none⟩,
    ⟨some 17, .bin .lss (.t 16) (.k (.int .i64 0)), none⟩] [0, 1, 17] [])
  (.cond (.t 17) (.seq (.reg [⟨some 4, .mv (.k (.bool true)), none⟩] [4] [])
  (.ret)) (.skip)))
  (.seq (.reg [⟨some 18, .mv (.t 0), none⟩,
    ⟨some 19, .call 334 [.t 18] [] [], none⟩,
    ⟨some 20, .mv (.t 1), none⟩,
    ⟨some 21, .call 323 [.t 19, .t 20] [] [], none⟩,
    ⟨some 6, .mv (.t 21), none⟩] [0, 1, 6] [])
  (.seq (.reg [⟨some 22, .mv (.t 0), none⟩,
    ⟨some 23, .call 334 [.t 22] [] [(0, 12300)], none⟩,
    ⟨some 7, .mv (.t 23), none⟩] [0, 1, 6, 7] [12300])
  (.seq (.reg [⟨some 24, .mv (.t 7), none⟩,
    ⟨some 25, .mv (.t 1), none⟩,
    ⟨some 26, .call 344 [.t 24, .t 25] [] [(0, 12600)], none⟩,
    ⟨some 8, .mv (.t 26), none⟩] [0, 1, 6, 7, 8] [12300, 12600])
  (.seq (.seq (.reg [⟨some 27, .mv (.t 8), none⟩,
    ⟨some 28, .mv (.t 6), none⟩,
    ⟨some 29, .call 45 [.t 27, .t 28] [] [], none⟩,
    ⟨some 30, .not (.t 29), none⟩] [0, 1, 6, 7, 8, 30] [12300, 12600])
  (.cond (.t 30) (.seq (.reg [⟨some 4, .mv (.k (.bool false)), none⟩] [4] [])
  (.ret)) (.skip)))
  (.seq (.seq (.reg [⟨some 31, .mv (.t 7), none⟩,
    ⟨some 32, .mv (.t 0), none⟩,
    ⟨some 33, .call 334 [.t 32] [] [], none⟩,
    ⟨some 34, .call 336 [.t 31, .t 33] [] [], none⟩,
    ⟨some 35, .not (.t 34), none⟩] [0, 1, 6, 7, 8, 35] [12300, 12600])
  (.cond (.t 35) (.seq (.reg [⟨some 4, .mv (.k (.bool false)), none⟩] [4] [])
  (.ret)) (.skip)))
  (.seq (.reg [⟨some 9, .mv (.k (.int .i64 1)), none⟩] [0, 1, 6, 7, 8, 9] [12300, 12600])
  (.seq (.reg [⟨some 36, .mv (.t 7), none⟩,
    ⟨some 37, .mv (.t 9), none⟩,
    ⟨some 38, .call 345 [.t 36, .t 37] [0] [], none⟩,
    ⟨some 9, .mv (.t 38), none⟩] [0, 1, 6, 8, 9] [12600])
  (.seq (.seq (.reg [⟨some 39, .mv (.t 9), none⟩,
    ⟨some 40, .bin .lss (.t 39) (.k (.int .i64 0)), none⟩,
    ⟨some 41, .mv (.t 40), none⟩,
    ⟨some 42, .mv (.t 8), some (41, false)⟩,
    ⟨some 43, .mv (.t 6), some (41, false)⟩,
    ⟨some 44, .call 45 [.t 42, .t 43] [] [], some (41, false)⟩,
    ⟨some 45, .not (.t 44), some (41, false)⟩,
    ⟨some 46, .pick (.t 41) (.k (.bool true)) (.t 45), none⟩] [0, 1, 6, 8, 46] [12600])
  (.cond (.t 46) (.seq (.reg [⟨some 4, .mv (.k (.bool false)), none⟩] [4] [])
  (.ret)) (.skip)))
  (.seq (.reg [⟨some 10, .mv (.k (.int .i64 1)), none⟩] [0, 1, 6, 8, 10] [12600])
  (.seq (.reg [⟨some 47, .mv (.t 8), none⟩,
    ⟨some 48, .mv (.t 10), none⟩,
    ⟨some 49, .call 46 [.t 47, .t 48] [0] [], none⟩,
    ⟨some 10, .mv (.t 49), none⟩] [0, 1, 6, 8, 10] [12600])
  (.seq (.reg [⟨some 11, .mv (.k (.int .i64 1)), none⟩] [0, 1, 6, 8, 10, 11] [12600])
  (.seq (.reg [⟨some 50, .mv (.t 8), none⟩,
    ⟨some 51, .mv (.t 11), none⟩,
    ⟨some 52, .call 47 [.t 50, .t 51] [] [], none⟩,
    ⟨some 11, .mv (.t 52), none⟩] [0, 1, 6, 8, 10, 11] [12600])
  (.seq (.seq (.reg [⟨some 53, .mv (.t 11), none⟩,
    ⟨some 54, .bin .lss (.t 53) (.k (.int .i64 0)), none⟩] [0, 1, 6, 8, 10, 11, 54] [12600])
  (.cond (.t 54) (.seq (.reg [⟨some 4, .mv (.k (.bool false)), none⟩] [4] [])
  (.ret)) (.skip)))
  (.seq (.seq (.reg [⟨some 55, .mv (.t 11), none⟩,
    ⟨some 56, .mv (.t 10), none⟩,
    ⟨some 57, .bin .neq (.t 55) (.t 56), none⟩] [0, 1, 6, 8, 10, 57] [12600])
  (.cond (.t 57) (.seq (.reg [⟨some 4, .mv (.k (.bool false)), none⟩] [4] [])
  (.ret)) (.skip)))
  (.seq (.reg [⟨some 58, .mv (.t 0), none⟩,
    ⟨some 59, .call 334 [.t 58] [] [], none⟩,
    ⟨some 60, .mv (.t 1), none⟩,
    ⟨some 61, .call 344 [.t 59, .t 60] [] [], none⟩,
    ⟨some 12, .mv (.t 61), none⟩] [6, 8, 10, 12] [12600])
  (.seq (.seq (.reg [⟨some 62, .mv (.t 12), none⟩,
    ⟨some 63, .mv (.t 6), none⟩,
    ⟨some 64, .call 45 [.t 62, .t 63] [] [], none⟩,
    ⟨some 65, .not (.t 64), none⟩] [8, 10, 65] [12600])
  (.cond (.t 65) (.seq (.reg [⟨some 4, .mv (.k (.bool false)), none⟩] [4] [])
  (.ret)) (.skip)))
  (.seq (.reg [⟨some 11, .mv (.k (.int .i64 1)), none⟩] [8, 10, 11] [12600])
  (.seq (.reg [⟨some 66, .mv (.t 8), none⟩,
    ⟨some 67, .mv (.t 11), none⟩,
    ⟨some 68, .call 47 [.t 66, .t 67] [] [], none⟩,
    ⟨some 11, .mv (.t 68), none⟩] [10, 11] [])
  (.seq (.seq (.reg [⟨some 69, .mv (.t 11), none⟩,
    ⟨some 70, .bin .lss (.t 69) (.k (.int .i64 0)), none⟩] [10, 11, 70] [])
  (.cond (.t 70) (.seq (.reg [⟨some 4, .mv (.k (.bool false)), none⟩] [4] [])
  (.ret)) (.skip)))
  (.seq (.seq (.reg [⟨some 71, .mv (.t 11), none⟩,
    ⟨some 72, .mv (.t 10), none⟩,
    ⟨some 73, .bin .neq (.t 71) (.t 72), none⟩] [73] [])
  (.cond (.t 73) (.seq (.reg [⟨some 4, .mv (.k (.bool false)), none⟩] [4] [])
  (.ret)) (.skip)))
  (.seq (.reg [⟨some 4, .mv (.k (.bool true)), none⟩] [4] [])
  (.ret)))))))))))))))))))))))))
def laws_FnExactPicked.m : Fn := { np := 2, body := laws_FnExactPicked.b, res := [.tmp 4] }
def laws_FnExactPicked.k (M : Nat → Option Body) : Prop := M 356 = some (.code laws_FnExactPicked.m) ∧ laws_eqIntS.k M ∧ laws_markIntS.k M ∧ laws_heldIntS.k M ∧ spec_Picked.k M ∧ laws_szRangeS.k M ∧ laws_toRangeS.k M ∧ laws_eqRangeS.k M ∧ impl_Picked.k M ∧ laws_markRangeS.k M
end Mx

/-
  What the two Picked answer, and their law.
-/
namespace Mx
open Go
variable {M : Nat → Option Body}

/-- the numbers from i on that are picked; d: how many are looked at -/
def pickFrom (l : List Range) (n : Int) : Nat → Int → List Int
  | 0, _ => []
  | d + 1, i => if i ≤ n ∧ i ≤ 100 then (if inSet l i n then [i] else []) ++ pickFrom l n d (i + 1) else []
def picked (l : List Range) (n : Int) : List Int := pickFrom l n 100 1
theorem pickFrom_len (l : List Range) (n : Int) : ∀ (d : Nat) (i : Int), (pickFrom l n d i).length ≤ d
  | 0, _ => by simp [pickFrom]
  | d + 1, i => by
    have := pickFrom_len l n d (i + 1)
    simp only [pickFrom]
    split
    · split <;> simp <;> omega
    · simp

def spPk (l : List Range) (n : Int) (s : Nat × List Int) (x : Nat × Nat) : St := { t := [(0, .c (rngs l)), (1, .c (I n)), (5, .c (.row 7 x.1 0 s.2.length)), (6, .c (I s.1))], o := [(7, ⟨x.1, 1, true, false, irow s.2⟩)], n := x.2 }
def pkInv (s : Nat × List Int) : Prop := 1 ≤ s.1 ∧ s.1 ≤ 101 ∧ s.2.length < s.1
theorem spec_Picked.says (h : spec_Picked.k M) (l : List Range) (n : Int) (hl : l.length ≤ 1048576) : run M 323 [.c (rngs l), .c (I n)] [] = some (.c (.sl true 1 (irow (picked l n))), []) := by
  refine run_code (b := spec_Picked.m) h.1 ⟨102, ?_⟩
  obtain ⟨g, hr⟩ := loop_all (f := exC (run M) 102 spec_Picked.l0) (spPk l n) pkInv (fun s => 101 - s.1) (fun s => s.2 ++ pickFrom l n (101 - s.1) s.1)
    (fun q (m : Nat × Nat × Nat) => (.exit 0, { t := [(0, .c (rngs l)), (1, .c (I n)), (5, .c (.row 7 m.1 0 q.length)), (6, .c (I m.2.1)), (14, .c (.bool false))], o := [(7, ⟨m.1, 1, true, false, irow q⟩)], n := m.2.2 }))
    (by
      rintro ⟨i, acc⟩ ⟨v, x⟩ ⟨h1, h2, h3⟩
      simp only at h1 h2 h3
      by_cases hn : (i : Int) ≤ n
      · by_cases hm : (i : Int) ≤ 100
        · have e5 : IntKind.i64.wrap ((i : Int) + 1) = (i : Int) + 1 := wrap_i64 (by omega) (by omega)
          have hs := spec_InSet.says h.2 l i n hl
          have hd : 101 - i = (101 - (i + 1)) + 1 := by omega
          have hp : pickFrom l n (101 - i) i = (if inSet l i n then [(i : Int)] else []) ++ pickFrom l n (101 - (i + 1)) ((i + 1 : Nat) : Int) := by
            rw [hd, pickFrom, if_pos ⟨hn, hm⟩]; rfl
          left
          cases hb : inSet l i n with
          | true =>
            rw [hb] at hs
            obtain ⟨y, hy⟩ : ∃ y, exC (run M) 102 spec_Picked.l0 (spPk l n (i, acc) (v, x)) = some (.normal, spPk l n (i + 1, acc ++ [(i : Int)]) y) := by
              have e9 : acc.length + 1 ≤ 4294967296 := by omega
              have e10 : [[I (i : Int)]] = irow [(i : Int)] := rfl
              simp only [Prod.exists]
              simp [spPk, spec_Picked.l0, hn, hm, hs, e5, e9, e10, List.take_of_length_le]
            refine ⟨(i + 1, acc ++ [(i : Int)]), y, hy, ⟨by simp only; omega, by simp only; omega, by simp only [List.length_append, List.length_singleton]; omega⟩, by simp only; omega, ?_⟩
            simp only [hp, hb, if_true, List.append_assoc]
          | false =>
            rw [hb] at hs
            obtain ⟨y, hy⟩ : ∃ y, exC (run M) 102 spec_Picked.l0 (spPk l n (i, acc) (v, x)) = some (.normal, spPk l n (i + 1, acc) y) := by
              simp only [Prod.exists]
              simp [spPk, spec_Picked.l0, hn, hm, hs, e5]
            refine ⟨(i + 1, acc), y, hy, ⟨by simp only; omega, by simp only; omega, by simp only; omega⟩, by simp only; omega, ?_⟩
            simp only [hp, hb, Bool.false_eq_true, if_false, List.nil_append]
        · have hp : pickFrom l n (101 - i) i = [] := by
            have : 101 - i = 0 := by omega
            rw [this, pickFrom]
          right
          refine ⟨(v, i, x + 112), ?_, by simp⟩
          simp only [hp, List.append_nil]
          simp [spPk, spec_Picked.l0, hn, hm]
      · have hp : pickFrom l n (101 - i) i = [] := by
          cases hd : 101 - i with
          | zero => rfl
          | succ d => rw [pickFrom, if_neg (fun h => hn h.1)]
        right
        refine ⟨(v, i, x + 112), ?_, by simp⟩
        simp only [hp, List.append_nil]
        simp [spPk, spec_Picked.l0, hn])
    102 (1, []) ⟨by simp, by simp, by simp⟩ (by simp)
  simp only [List.nil_append] at hr
  have hpk : pickFrom l n 100 1 = picked l n := rfl
  simp [spPk, rngs, hpk] at hr
  simp [exB, spec_Picked.m, spec_Picked.b, List.range_succ, rngs, hr]

def imPk := spPk
theorem impl_Picked.says (h : impl_Picked.k M) (l : List Range) (n : Int) (hl : l.length ≤ 1048576) : run M 344 [.c (rngs l), .c (I n)] [] = some (.c (.sl true 1 (irow (picked l n))), []) := by
  refine run_code (b := impl_Picked.m) h.1 ⟨102, ?_⟩
  obtain ⟨g, hr⟩ := loop_all (f := exC (run M) 102 impl_Picked.l0) (spPk l n) pkInv (fun s => 101 - s.1) (fun s => s.2 ++ pickFrom l n (101 - s.1) s.1)
    (fun q (m : Nat × Nat × Nat) => (.exit 0, { t := [(0, .c (rngs l)), (1, .c (I n)), (5, .c (.row 7 m.1 0 q.length)), (6, .c (I m.2.1)), (11, .c (.bool false))], o := [(7, ⟨m.1, 1, true, false, irow q⟩)], n := m.2.2 }))
    (by
      rintro ⟨i, acc⟩ ⟨v, x⟩ ⟨h1, h2, h3⟩
      simp only at h1 h2 h3
      by_cases hb2 : (i : Int) ≤ n ∧ (i : Int) ≤ 100
      · obtain ⟨hn, hm⟩ := hb2
        have e5 : IntKind.i64.wrap ((i : Int) + 1) = (i : Int) + 1 := wrap_i64 (by omega) (by omega)
        have hq : (i : Int) ≤ (if 100 < n then 100 else n) := by split <;> omega
        have hs := impl_InSet.says h.2 l i n hl
        have hd : 101 - i = (101 - (i + 1)) + 1 := by omega
        have hp : pickFrom l n (101 - i) i = (if inSet l i n then [(i : Int)] else []) ++ pickFrom l n (101 - (i + 1)) ((i + 1 : Nat) : Int) := by
          rw [hd, pickFrom, if_pos ⟨hn, hm⟩]; rfl
        left
        cases hb : inSet l i n with
        | true =>
          rw [hb] at hs
          obtain ⟨y, hy⟩ : ∃ y, exC (run M) 102 impl_Picked.l0 (spPk l n (i, acc) (v, x)) = some (.normal, spPk l n (i + 1, acc ++ [(i : Int)]) y) := by
            have e9 : acc.length + 1 ≤ 4294967296 := by omega
            have e10 : [[I (i : Int)]] = irow [(i : Int)] := rfl
            simp only [Prod.exists]
            simp [spPk, impl_Picked.l0, hq, hs, e5, e9, e10, List.take_of_length_le]
          refine ⟨(i + 1, acc ++ [(i : Int)]), y, hy, ⟨by simp only; omega, by simp only; omega, by simp only [List.length_append, List.length_singleton]; omega⟩, by simp only; omega, ?_⟩
          simp only [hp, hb, if_true, List.append_assoc]
        | false =>
          rw [hb] at hs
          obtain ⟨y, hy⟩ : ∃ y, exC (run M) 102 impl_Picked.l0 (spPk l n (i, acc) (v, x)) = some (.normal, spPk l n (i + 1, acc) y) := by
            simp only [Prod.exists]
            simp [spPk, impl_Picked.l0, hq, hs, e5]
          refine ⟨(i + 1, acc), y, hy, ⟨by simp only; omega, by simp only; omega, by simp only; omega⟩, by simp only; omega, ?_⟩
          simp only [hp, hb, Bool.false_eq_true, if_false, List.nil_append]
      · have hq : ¬ (i : Int) ≤ (if 100 < n then 100 else n) := by split <;> omega
        have hp : pickFrom l n (101 - i) i = [] := by
          cases hd : 101 - i with
          | zero => rfl
          | succ d => rw [pickFrom, if_neg hb2]
        right
        refine ⟨(v, i, x + 64), ?_, by simp⟩
        simp only [hp, List.append_nil]
        simp [spPk, impl_Picked.l0, hq])
    102 (1, []) ⟨by simp, by simp, by simp⟩ (by simp)
  simp only [List.nil_append] at hr
  have hpk : pickFrom l n 100 1 = picked l n := rfl
  simp [spPk, rngs, hpk] at hr
  simp [exB, impl_Picked.m, impl_Picked.b, List.range_succ, rngs, hr]

def mranges (k : Int) : Nat → List Range
  | 0 => []
  | n + 1 => mranges k n ++ [⟨k + 2 * n, k + 2 * n + 1⟩]
theorem mranges_len (k : Int) (n : Nat) : (mranges k n).length = n := by
  induction n with
  | zero => rfl
  | succ n ih => simp [mranges, ih]
theorem rows_flat (l : List Range) : (rows l).all (fun r => r.all T.scalar) = true := by
  simp only [rows, List.all_map, List.all_eq_true]
  intro n _; rfl
def mkR (k : Int) (l : List Range) (i : Nat) (x : Nat) : St := { t := [(0, .c (.row 0 0 0 l.length)), (1, .c (I (k + 2 * i))), (5, .c (I i))], o := [(0, ⟨0, 2, true, false, rows (mranges k i ++ l.drop i)⟩)], n := x }
theorem laws_markRangeS.says (h : laws_markRangeS.k M) (l : List Range) (k : Int) (hk : -9223372036854775808 ≤ k) (hl : k + 2 * l.length ≤ 9223372036854775807) (hl2 : l.length ≤ 4611686018427387904) :
    run M 345 [.c (.row 0 0 0 l.length), .c (I k)] [(0, ⟨0, 2, true, false, rows l⟩)] = some (.c (I (k + 2 * l.length)), [(0, ⟨0, 2, true, false, rows (mranges k l.length)⟩)]) := by
  refine run_code (b := laws_markRangeS.m) h ⟨l.length + 1, ?_⟩
  obtain ⟨g, hr⟩ := loop_all (f := exC (run M) (l.length + 1) laws_markRangeS.l0) (mkR k l) (fun i => i ≤ l.length) (fun i => l.length - i) (fun _ => ())
    (fun _ m => (.exit 0, { t := [(0, .c (.row 0 0 0 l.length)), (1, .c (I (k + 2 * l.length))), (5, .c (I l.length)), (9, .c (.bool false))], o := [(0, ⟨0, 2, true, false, rows (mranges k l.length)⟩)], n := m }))
    (by
      intro i x hi
      by_cases hlt : i < l.length
      · have e5 : IntKind.i64.wrap ((i : Int) + 1) = (i : Int) + 1 := wrap_i64 (by omega) (by omega)
        have e6 : IntKind.i64.wrap (k + 2 * (i : Int) + 1) = k + 2 * (i : Int) + 1 := wrap_i64 (by omega) (by omega)
        have e6' : IntKind.i64.wrap (k + 2 * (i : Int) + 1 + 1) = k + 2 * ((i : Int) + 1) := by rw [wrap_i64 (by omega) (by omega)]; omega
        have e8 : i + (l.length - i) = l.length := by omega
        have hml : (mranges k i).length = i := mranges_len k i
        have hd := List.drop_eq_getElem_cons hlt
        have e9 : i < (rows (mranges k i ++ l.drop i)).length := by simp [rows_len, hml]; omega
        have h3 : (rows (mranges k i ++ l.drop i))[i]? = some (encR l[i]) := by
          rw [hd]; simp only [rows, List.map_append, List.map_cons]; exact at_mid _ _ _ _ (by simp [hml])
        have h3' : ∀ h, (rows (mranges k i ++ l.drop i))[i]'h = [I l[i].a, I l[i].b] := fun h => by rw [List.getElem?_eq_getElem h] at h3; exact Option.some.inj h3
        have h4 : ((rows (mranges k i ++ l.drop i)).set i [I (k + 2 * i), I (k + 2 * i + 1)]) = rows (mranges k (i + 1) ++ l.drop (i + 1)) := by
          rw [hd]; simp only [rows, List.map_append, List.map_cons, mranges, List.append_assoc, List.cons_append, List.nil_append, List.map_nil]; exact set_mid _ _ _ _ (by simp [hml]) _
        obtain ⟨y, hy⟩ : ∃ y, exC (run M) (l.length + 1) laws_markRangeS.l0 (mkR k l i x) = some (.normal, mkR k l (i + 1) y) := by
          simp [mkR, laws_markRangeS.l0, hlt, e5, e6, e6', e8, e9, rows_len, hml, h3', h4, setAt]
        exact .inl ⟨i + 1, y, hy, hlt, by omega, rfl⟩
      · have : i = l.length := by omega
        subst this
        exact .inr ⟨x + 64, by simp [mkR, laws_markRangeS.l0], by simp⟩)
    (l.length + 1) 0 (Nat.zero_le _) (by omega)
  simp [mkR, mranges] at hr
  simp [exB, laws_markRangeS.m, laws_markRangeS.b, List.range_succ, hr]

theorem laws_FnExactPicked.says (h : laws_FnExactPicked.k M) (l : List Range) (n : Int) (hl : l.length ≤ 9223372036854775807) : run M 356 [.c (rngs l), .c (I n)] [] = some (.c (.bool true), []) := by
  obtain ⟨h0, k1, k2, k3, k4, k5, k6, k7, k8, k9⟩ := h
  have hz := laws_szRangeS.says k5 l hl
  refine run_code (b := laws_FnExactPicked.m) h0 ⟨0, ?_⟩
  by_cases hc : 1048576 < l.length
  · rw [if_pos hc] at hz
    simp [exB, laws_FnExactPicked.m, laws_FnExactPicked.b, List.range_succ, hz]
  · rw [if_neg hc] at hz
    have hl0 : l.length ≤ 1048576 := by omega
    have e : ¬ (1048576 : Int) - l.length < 0 := by omega
    have h1 := laws_toRangeS.says k6 l hl0
    have h2 := spec_Picked.says k4 l n hl0
    have h3 := impl_Picked.says k8 l n hl0
    have hp : (picked l n).length ≤ 100 := pickFrom_len l n 100 1
    have h4 := laws_eqIntS.says k1 (picked l n) (by omega)
    have h5 := laws_eqRangeS.says k7 l hl0
    have h6 := laws_markRangeS.says k9 l 1 (by omega) (by omega) (by omega)
    have h7 := laws_markIntS.says k2 (picked l n) 1 (by omega) (by omega) (by omega)
    have h8 := laws_heldIntS.says k3 (picked l n).length 1 (by omega) (by omega) (by omega)
    have e2 : ¬ 1 + 2 * (l.length : Int) < 0 := by omega
    have e3 : ¬ 1 + ((picked l n).length : Int) < 0 := by omega
    simp [exB, laws_FnExactPicked.m, laws_FnExactPicked.b, List.range_succ, hz, e, h1, h2, h3, h4, h5, h6, h7, h8, e2, e3, rows_flat, rows_len, List.take_of_length_le]
theorem laws_FnExactPicked.row (h : laws_FnExactPicked.k M) {as : List V} (ha : HasVs [.cell (.sl [.int .i64, .int .i64]), .cell (.int .i64)] as) : run M 356 as [] = some (.c (.bool true), []) := by
  cases ha with | cons h0 ha =>
  cases ha with | cons h1 ha =>
  cases ha
  cases h0 with | cell h0 =>
  cases h1 with | cell h1 =>
  cases h0 with | sl _ rs hl k1 k2 =>
  cases h1
  obtain ⟨l, rfl⟩ := has_rows (rows' := rs) fun r hr => by
    obtain ⟨i, hi⟩ := List.getElem?_of_mem hr
    exact ⟨k1 i r hi, fun j c t e1 e2 => k2 i j r c t hi e1 e2⟩
  have : maxLen ≤ 9223372036854775807 := by decide
  exact laws_FnExactPicked.says h l _ (by rw [rows_len] at hl; omega)
end Mx

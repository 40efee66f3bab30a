/-
  Small codes: spec.l02Four, impl.four, spec.SumMore, spec.SumOf, impl.SumMore, impl.SumOf, spec.Sealed, impl.Sealed, spec.Unsealed, impl.fourAt, impl.Unsealed.
-/
import Derived.Test.YtpocolhpkkkmeaaMxFb
import Derived.Test.YtpocolhpkkkmeaaMxFbb
set_option linter.unusedSimpArgs false
set_option linter.unusedVariables false
namespace Mx
open Go
def spec_l02Four.b : C := .seq (.reg [⟨some 2, .mv (.k (.str ⟨#[]⟩)), none⟩] [0] [])
  (.seq (.reg [⟨some 3, .mv (.t 0), none⟩,
    ⟨some 4, .bin .shr (.t 3) (.k (.int .u64 24)), none⟩,
    ⟨some 5, .i2i .u8 (.t 4), none⟩,
    ⟨some 6, .mv (.t 0), none⟩,
    ⟨some 7, .bin .shr (.t 6) (.k (.int .u64 16)), none⟩,
    ⟨some 8, .i2i .u8 (.t 7), none⟩,
    ⟨some 9, .mv (.t 0), none⟩,
    ⟨some 10, .bin .shr (.t 9) (.k (.int .u64 8)), none⟩,
    ⟨some 11, .i2i .u8 (.t 10), none⟩,
    ⟨some 12, .mv (.t 0), none⟩,
    ⟨some 13, .i2i .u8 (.t 12), none⟩,
    ⟨some 14, .bslice 1 4 [.int .u8 0] [(0, .t 5), (1, .t 8), (2, .t 11), (3, .t 13)], none⟩,
    ⟨some 15, .b2s (.t 14), none⟩,
    ⟨some 2, .mv (.t 15), none⟩] [2] [])
  (.ret))
def spec_l02Four.m : Fn := { np := 1, body := spec_l02Four.b, res := [.tmp 2] }
def spec_l02Four.k (M : Nat → Option Body) : Prop := M 202 = some (.code spec_l02Four.m)
def impl_four.b : C := .seq (.reg [⟨some 2, .mv (.k (.str ⟨#[]⟩)), none⟩] [0] [])
  (.seq (.reg [⟨some 3, .mv (.t 0), none⟩,
    ⟨some 4, .bin .shr (.t 3) (.k (.int .u64 24)), none⟩,
    ⟨some 5, .i2i .u8 (.t 4), none⟩,
    ⟨some 6, .mv (.t 0), none⟩,
    ⟨some 7, .bin .shr (.t 6) (.k (.int .u64 16)), none⟩,
    ⟨some 8, .i2i .u8 (.t 7), none⟩,
    ⟨some 9, .mv (.t 0), none⟩,
    ⟨some 10, .bin .shr (.t 9) (.k (.int .u64 8)), none⟩,
    ⟨some 11, .i2i .u8 (.t 10), none⟩,
    ⟨some 12, .mv (.t 0), none⟩,
    ⟨some 13, .i2i .u8 (.t 12), none⟩,
    ⟨some 14, .bslice 1 4 [.int .u8 0] [(0, .t 5), (1, .t 8), (2, .t 11), (3, .t 13)], none⟩,
    ⟨some 15, .b2s (.t 14), none⟩,
    ⟨some 2, .mv (.t 15), none⟩] [2] [])
  (.ret))
def impl_four.m : Fn := { np := 1, body := impl_four.b, res := [.tmp 2] }
def impl_four.k (M : Nat → Option Body) : Prop := M 204 = some (.code impl_four.m)
def spec_SumMore.l1 : C := .seq (.seq (.reg [⟨some 20, .mv (.t 6), none⟩,
    ⟨some 21, .bin .lss (.t 20) (.k (.int .i64 8)), none⟩] [0, 1, 5, 6, 21] [])
  (.cond (.t 21) (.skip) (.exit 2)))
  (.seq (.block 3 (.seq (.reg [⟨some 24, .mv (.t 0), none⟩,
    ⟨some 25, .bin .rem (.t 24) (.k (.int .u32 2)), none⟩,
    ⟨some 26, .bin .eql (.t 25) (.k (.int .u32 1)), none⟩,
    ⟨some 7, .mv (.t 26), none⟩] [0, 1, 5, 6, 7] [])
  (.seq (.reg [⟨some 27, .mv (.t 0), none⟩,
    ⟨some 28, .bin .quo (.t 27) (.k (.int .u32 2)), none⟩,
    ⟨some 0, .mv (.t 28), none⟩] [0, 1, 5, 6, 7] [])
  (.seq (.reg [⟨some 29, .mv (.t 7), none⟩] [0, 1, 5, 6, 29] [])
  (.cond (.t 29) (.reg [⟨some 30, .mv (.t 0), none⟩,
    ⟨some 31, .bin .xor (.t 30) (.k (.int .u32 3558460437)), none⟩,
    ⟨some 0, .mv (.t 31), none⟩] [0, 1, 5, 6] []) (.skip))))))
  (.reg [⟨some 22, .mv (.t 6), none⟩,
    ⟨some 23, .bin .add (.t 22) (.k (.int .i64 1)), none⟩,
    ⟨some 6, .mv (.t 23), none⟩] [0, 1, 5, 6] []))
def spec_SumMore.l0 : C := .seq (.seq (.reg [⟨some 8, .mv (.t 5), none⟩,
    ⟨some 9, .mv (.t 1), none⟩,
    ⟨some 10, .slen (.t 9), none⟩,
    ⟨some 11, .bin .lss (.t 8) (.t 10), none⟩] [0, 1, 5, 11] [])
  (.cond (.t 11) (.skip) (.exit 0)))
  (.seq (.block 1 (.seq (.reg [⟨some 14, .mv (.t 0), none⟩,
    ⟨some 15, .mv (.t 1), none⟩,
    ⟨some 16, .mv (.t 5), none⟩,
    ⟨some 17, .idx (.t 15) (.t 16), none⟩,
    ⟨some 18, .i2i .u32 (.t 17), none⟩,
    ⟨some 19, .bin .xor (.t 14) (.t 18), none⟩,
    ⟨some 0, .mv (.t 19), none⟩] [0, 1, 5] [])
  (.seq (.reg [⟨some 6, .mv (.k (.int .i64 0)), none⟩] [0, 1, 5, 6] [])
  (.block 2 (.loop spec_SumMore.l1)))))
  (.reg [⟨some 12, .mv (.t 5), none⟩,
    ⟨some 13, .bin .add (.t 12) (.k (.int .i64 1)), none⟩,
    ⟨some 5, .mv (.t 13), none⟩] [0, 1, 5] []))
def spec_SumMore.b : C := .seq (.reg [⟨some 4, .mv (.k (.int .u32 0)), none⟩] [0, 1] [])
  (.seq (.seq (.reg [⟨some 5, .mv (.k (.int .i64 0)), none⟩] [0, 1, 5] [])
  (.block 0 (.loop spec_SumMore.l0)))
  (.seq (.reg [⟨some 32, .mv (.t 0), none⟩,
    ⟨some 4, .mv (.t 32), none⟩] [4] [])
  (.ret)))
def spec_SumMore.m : Fn := { np := 2, body := spec_SumMore.b, res := [.tmp 4] }
def spec_SumMore.k (M : Nat → Option Body) : Prop := M 248 = some (.code spec_SumMore.m)
def spec_SumOf.b : C := .seq (.reg [⟨some 2, .mv (.k (.int .u32 0)), none⟩] [0] [])
  (.seq (.reg [⟨some 3, .mv (.t 0), none⟩,
    ⟨some 4, .call 248 [.k (.int .u32 4294967295), .t 3] [] [], none⟩,
    ⟨some 2, .mv (.t 4), none⟩] [2] [])
  (.ret))
def spec_SumOf.m : Fn := { np := 1, body := spec_SumOf.b, res := [.tmp 2] }
def spec_SumOf.k (M : Nat → Option Body) : Prop := M 201 = some (.code spec_SumOf.m) ∧ spec_SumMore.k M
def impl_SumMore.l1 : C := .seq (.reg [⟨some 20, .bin .lss (.t 19) (.k (.int .i64 8)), none⟩] [0, 1, 5, 19, 20] [])
  (.seq (.cond (.t 20) (.skip) (.exit 2))
  (.seq (.block 3 (.seq (.reg [⟨some 21, .mv (.t 0), none⟩,
    ⟨some 22, .bin .and (.t 21) (.k (.int .u32 1)), none⟩,
    ⟨some 6, .mv (.t 22), none⟩] [0, 1, 5, 6, 19] [])
  (.seq (.reg [⟨some 23, .mv (.t 0), none⟩,
    ⟨some 24, .bin .shr (.t 23) (.k (.int .u64 1)), none⟩,
    ⟨some 0, .mv (.t 24), none⟩] [0, 1, 5, 6, 19] [])
  (.seq (.reg [⟨some 25, .mv (.t 6), none⟩,
    ⟨some 26, .bin .eql (.t 25) (.k (.int .u32 1)), none⟩] [0, 1, 5, 19, 26] [])
  (.cond (.t 26) (.reg [⟨some 27, .mv (.t 0), none⟩,
    ⟨some 28, .bin .xor (.t 27) (.k (.int .u32 3558460437)), none⟩,
    ⟨some 0, .mv (.t 28), none⟩] [0, 1, 5, 19] []) (.skip))))))
  (.reg [⟨some 29, .bin .add (.t 19) (.k (.int .i64 1)), none⟩,
    ⟨some 19, .mv (.t 29), none⟩] [0, 1, 5, 19] [])))
def impl_SumMore.l0 : C := .seq (.seq (.reg [⟨some 7, .mv (.t 5), none⟩,
    ⟨some 8, .mv (.t 1), none⟩,
    ⟨some 9, .slen (.t 8), none⟩,
    ⟨some 10, .bin .lss (.t 7) (.t 9), none⟩] [0, 1, 5, 10] [])
  (.cond (.t 10) (.skip) (.exit 0)))
  (.seq (.block 1 (.seq (.reg [⟨some 13, .mv (.t 0), none⟩,
    ⟨some 14, .mv (.t 1), none⟩,
    ⟨some 15, .mv (.t 5), none⟩,
    ⟨some 16, .idx (.t 14) (.t 15), none⟩,
    ⟨some 17, .i2i .u32 (.t 16), none⟩,
    ⟨some 18, .bin .xor (.t 13) (.t 17), none⟩,
    ⟨some 0, .mv (.t 18), none⟩] [0, 1, 5] [])
  (.seq (.reg [⟨some 19, .mv (.k (.int .i64 0)), none⟩] [0, 1, 5, 19] [])
  (.block 2 (.loop impl_SumMore.l1)))))
  (.reg [⟨some 11, .mv (.t 5), none⟩,
    ⟨some 12, .bin .add (.t 11) (.k (.int .i64 1)), none⟩,
    ⟨some 5, .mv (.t 12), none⟩] [0, 1, 5] []))
def impl_SumMore.b : C := .seq (.reg [⟨some 4, .mv (.k (.int .u32 0)), none⟩] [0, 1] [])
  (.seq (.seq (.reg [⟨some 5, .mv (.k (.int .i64 0)), none⟩] [0, 1, 5] [])
  (.block 0 (.loop impl_SumMore.l0)))
  (.seq (.reg [⟨some 30, .mv (.t 0), none⟩,
    ⟨some 4, .mv (.t 30), none⟩] [4] [])
  (.ret)))
def impl_SumMore.m : Fn := { np := 2, body := impl_SumMore.b, res := [.tmp 4] }
def impl_SumMore.k (M : Nat → Option Body) : Prop := M 249 = some (.code impl_SumMore.m)
def impl_SumOf.b : C := .seq (.reg [⟨some 2, .mv (.k (.int .u32 0)), none⟩] [0] [])
  (.seq (.reg [⟨some 3, .mv (.t 0), none⟩,
    ⟨some 4, .call 249 [.k (.int .u32 4294967295), .t 3] [] [], none⟩,
    ⟨some 2, .mv (.t 4), none⟩] [2] [])
  (.ret))
def impl_SumOf.m : Fn := { np := 1, body := impl_SumOf.b, res := [.tmp 2] }
def impl_SumOf.k (M : Nat → Option Body) : Prop := M 203 = some (.code impl_SumOf.m) ∧ impl_SumMore.k M
def spec_Sealed.b : C := .seq (.reg [⟨some 2, .mv (.k (.str ⟨#[]⟩)), none⟩,
    ⟨some 3, .mv (.k (.bool false)), none⟩] [0] [])
  (.seq (.seq (.reg [⟨some 4, .mv (.t 0), none⟩,
    ⟨some 5, .slen (.t 4), none⟩,
    ⟨some 6, .bin .gtr (.t 5) (.k (.int .i64 20000)), none⟩] [0, 6] [])
  (.cond (.t 6) (.seq (.reg [⟨some 2, .mv (.k (.str ⟨#[]⟩)), none⟩,
    ⟨some 3, .mv (.k (.bool false)), none⟩] [2, 3] [])
  (.ret)) (.skip)))
  (.seq (.reg [⟨some 7, .mv (.t 0), none⟩,
    ⟨some 8, .mv (.t 0), none⟩,
    ⟨some 9, .call 201 [.t 8] [] [], none⟩,
    ⟨some 10, .call 202 [.t 9] [] [], none⟩,
    ⟨some 11, .bin .add (.t 7) (.t 10), none⟩,
    ⟨some 2, .mv (.t 11), none⟩,
    ⟨some 3, .mv (.k (.bool true)), none⟩] [2, 3] [])
  (.ret)))
def spec_Sealed.m : Fn := { np := 1, body := spec_Sealed.b, res := [.tmp 2, .tmp 3] }
def spec_Sealed.k (M : Nat → Option Body) : Prop := M 100 = some (.code spec_Sealed.m) ∧ spec_SumOf.k M ∧ spec_l02Four.k M
def impl_Sealed.b : C := .seq (.reg [⟨some 2, .mv (.k (.str ⟨#[]⟩)), none⟩,
    ⟨some 3, .mv (.k (.bool false)), none⟩] [0] [])
  (.seq (.seq (.reg [⟨some 4, .mv (.t 0), none⟩,
    ⟨some 5, .slen (.t 4), none⟩,
    ⟨some 6, .bin .gtr (.t 5) (.k (.int .i64 20000)), none⟩] [0, 6] [])
  (.cond (.t 6) (.seq (.reg [⟨some 2, .mv (.k (.str ⟨#[]⟩)), none⟩,
    ⟨some 3, .mv (.k (.bool false)), none⟩] [2, 3] [])
  (.ret)) (.skip)))
  (.seq (.reg [⟨some 7, .mv (.t 0), none⟩,
    ⟨some 8, .mv (.t 0), none⟩,
    ⟨some 9, .call 203 [.t 8] [] [], none⟩,
    ⟨some 10, .i2i .i64 (.t 9), none⟩,
    ⟨some 11, .call 204 [.t 10] [] [], none⟩,
    ⟨some 12, .bin .add (.t 7) (.t 11), none⟩,
    ⟨some 2, .mv (.t 12), none⟩,
    ⟨some 3, .mv (.k (.bool true)), none⟩] [2, 3] [])
  (.ret)))
def impl_Sealed.m : Fn := { np := 1, body := impl_Sealed.b, res := [.tmp 2, .tmp 3] }
def impl_Sealed.k (M : Nat → Option Body) : Prop := M 103 = some (.code impl_Sealed.m) ∧ impl_SumOf.k M ∧ impl_four.k M
def spec_Unsealed.b : C := .seq (.reg [⟨some 2, .mv (.k (.str ⟨#[]⟩)), none⟩,
    ⟨some 3, .mv (.k (.bool false)), none⟩] [0] [])
  (.seq (.reg [⟨some 5, .mv (.t 0), none⟩,
    ⟨some 6, .slen (.t 5), none⟩,
    ⟨some 7, .bin .sub (.t 6) (.k (.int .i64 4)), none⟩,
    ⟨some 4, .mv (.t 7), none⟩] [0, 4] [])
  (.seq (.seq (.regd [⟨some 8, .mv (.t 4), none⟩,
    ⟨some 9, .bin .lss (.t 8) (.k (.int .i64 0)), none⟩,
    ⟨some 10, .mv (.t 9), none⟩,
    ⟨some 11, .mv (.t 4), some (10, false)⟩,
    ⟨some 12, .bin .gtr (.t 11) (.k (.int .i64 20000)), some (10, false)⟩,
    ⟨some 13, .pick (.t 10) (.k (.bool true)) (.t 12), none⟩,
    ⟨some 14, .mv (.t 13), none⟩,
    ⟨some 15, .mv (.t 0), some (14, false)⟩,
    ⟨some 16, .mv (.t 4), some (14, false)⟩,
    ⟨some 17, .sstr (.t 15) (some (.t 16)) none, some (14, false)⟩,
    ⟨some 18, .mv (.t 0), some (14, false)⟩,
    ⟨some 19, .mv (.t 4), some (14, false)⟩,
    ⟨some 20, .sstr (.t 18) none (some (.t 19)), some (14, false)⟩,
    ⟨some 21, .call 201 [.t 20] [] [], some (14, false)⟩,
    ⟨some 22, .call 202 [.t 21] [] [], some (14, false)⟩,
    ⟨some 23, .bin .neq (.t 17) (.t 22), some (14, false)⟩,
    ⟨some 24, .pick (.t 14) (.k (.bool true)) (.t 23), none⟩] [[], [0], [0, 1], [0, 1, 2], [0, 1, 2, 3], [0, 1, 2, 3, 4], [0, 1, 2, 3, 4, 5], [0, 1, 2, 3, 4, 5, 6], [0, 1, 2, 3, 4, 5, 6], [0, 1, 2, 3, 4, 5, 6, 7, 8], [0, 1, 2, 3, 4, 5, 6], [0, 1, 2, 3, 4, 5, 6], [0, 1, 2, 3, 4, 5, 6, 10, 11], [0, 1, 2, 3, 4, 5, 6, 10, 11, 12], [0, 1, 2, 3, 4, 5, 6, 10, 11, 12, 13], [0, 1, 2, 3, 4, 5, 6, 7, 8, 9, 10, 11, 12, 13, 14], [0, 1, 2, 3, 4, 5, 6, 7, 8, 9, 10, 11, 12, 13, 14, 15]] [0, 4, 24] [])
  (.cond (.t 24) (.seq (.reg [⟨some 2, .mv (.k (.str ⟨#[]⟩)), none⟩,
    ⟨some 3, .mv (.k (.bool false)), none⟩] [2, 3] [])
  (.ret)) (.skip)))
  (.seq (.reg [⟨some 25, .mv (.t 0), none⟩,
    ⟨some 26, .mv (.t 4), none⟩,
    ⟨some 27, .sstr (.t 25) none (some (.t 26)), none⟩,
    ⟨some 2, .mv (.t 27), none⟩,
    ⟨some 3, .mv (.k (.bool true)), none⟩] [2, 3] [])
  (.ret))))
def spec_Unsealed.m : Fn := { np := 1, body := spec_Unsealed.b, res := [.tmp 2, .tmp 3] }
def spec_Unsealed.k (M : Nat → Option Body) : Prop := M 167 = some (.code spec_Unsealed.m) ∧ spec_SumOf.k M ∧ spec_l02Four.k M
def impl_fourAt.b : C := .seq (.reg [⟨some 4, .mv (.k (.int .i64 0)), none⟩] [0, 1] [])
  (.seq (.regd [⟨some 5, .mv (.t 0), none⟩,
    ⟨some 6, .mv (.t 1), none⟩,
    ⟨some 7, .idx (.t 5) (.t 6), none⟩,
    ⟨some 8, .i2i .i64 (.t 7), none⟩,
    ⟨some 9, .bin .shl (.t 8) (.k (.int .u64 24)), none⟩,
    ⟨some 10, .mv (.t 0), none⟩,
    ⟨some 11, .mv (.t 1), none⟩,
    ⟨some 12, .bin .add (.t 11) (.k (.int .i64 1)), none⟩,
    ⟨some 13, .idx (.t 10) (.t 12), none⟩,
    ⟨some 14, .i2i .i64 (.t 13), none⟩,
    ⟨some 15, .bin .shl (.t 14) (.k (.int .u64 16)), none⟩,
    ⟨some 16, .bin .or (.t 9) (.t 15), none⟩,
    ⟨some 17, .mv (.t 0), none⟩,
    ⟨some 18, .mv (.t 1), none⟩,
    ⟨some 19, .bin .add (.t 18) (.k (.int .i64 2)), none⟩,
    ⟨some 20, .idx (.t 17) (.t 19), none⟩,
    ⟨some 21, .i2i .i64 (.t 20), none⟩,
    ⟨some 22, .bin .shl (.t 21) (.k (.int .u64 8)), none⟩,
    ⟨some 23, .bin .or (.t 16) (.t 22), none⟩,
    ⟨some 24, .mv (.t 0), none⟩,
    ⟨some 25, .mv (.t 1), none⟩,
    ⟨some 26, .bin .add (.t 25) (.k (.int .i64 3)), none⟩,
    ⟨some 27, .idx (.t 24) (.t 26), none⟩,
    ⟨some 28, .i2i .i64 (.t 27), none⟩,
    ⟨some 29, .bin .or (.t 23) (.t 28), none⟩,
    ⟨some 4, .mv (.t 29), none⟩] [[], [], [0, 1], [0, 1, 2], [0, 1, 2, 3], [], [], [6], [5, 6, 7], [5, 6, 7, 8], [5, 6, 7, 8, 9], [0, 1, 2, 3, 4, 5, 6, 7, 8, 9, 10], [], [], [13], [12, 13, 14], [12, 13, 14, 15], [12, 13, 14, 15, 16], [0, 1, 2, 3, 4, 5, 6, 7, 8, 9, 10, 11, 12, 13, 14, 15, 16, 17], [], [], [20], [19, 20, 21], [19, 20, 21, 22], [0, 1, 2, 3, 4, 5, 6, 7, 8, 9, 10, 11, 12, 13, 14, 15, 16, 17, 18, 19, 20, 21, 22, 23], [0, 1, 2, 3, 4, 5, 6, 7, 8, 9, 10, 11, 12, 13, 14, 15, 16, 17, 18, 19, 20, 21, 22, 23, 24]] [4] [])
  (.ret))
def impl_fourAt.m : Fn := { np := 2, body := impl_fourAt.b, res := [.tmp 4] }
def impl_fourAt.k (M : Nat → Option Body) : Prop := M 236 = some (.code impl_fourAt.m)
def impl_Unsealed.b : C := .seq (.reg [⟨some 2, .mv (.k (.str ⟨#[]⟩)), none⟩,
    ⟨some 3, .mv (.k (.bool false)), none⟩] [0] [])
  (.seq (.reg [⟨some 5, .mv (.t 0), none⟩,
    ⟨some 6, .slen (.t 5), none⟩,
    ⟨some 7, .bin .sub (.t 6) (.k (.int .i64 4)), none⟩,
    ⟨some 4, .mv (.t 7), none⟩] [0, 4] [])
  (.seq (.seq (.reg [⟨some 8, .mv (.t 4), none⟩,
    ⟨some 9, .call 101 [.t 8, .k (.int .i64 0), .k (.int .i64 20000)] [] [], none⟩,
    ⟨some 10, .not (.t 9), none⟩,
    ⟨some 11, .mv (.t 10), none⟩,
    ⟨some 12, .mv (.t 0), some (11, false)⟩,
    ⟨some 13, .mv (.t 4), some (11, false)⟩,
    ⟨some 14, .sstr (.t 12) none (some (.t 13)), some (11, false)⟩,
    ⟨some 15, .call 203 [.t 14] [] [], some (11, false)⟩,
    ⟨some 16, .i2i .i64 (.t 15), some (11, false)⟩,
    ⟨some 17, .mv (.t 0), some (11, false)⟩,
    ⟨some 18, .mv (.t 4), some (11, false)⟩,
    ⟨some 19, .call 236 [.t 17, .t 18] [] [], some (11, false)⟩,
    ⟨some 20, .bin .neq (.t 16) (.t 19), some (11, false)⟩,
    ⟨some 21, .pick (.t 11) (.k (.bool true)) (.t 20), none⟩] [0, 4, 21] [])
  (.cond (.t 21) (.seq (.reg [⟨some 2, .mv (.k (.str ⟨#[]⟩)), none⟩,
    ⟨some 3, .mv (.k (.bool false)), none⟩] [2, 3] [])
  (.ret)) (.skip)))
  (.seq (.reg [⟨some 22, .mv (.t 0), none⟩,
    ⟨some 23, .mv (.t 4), none⟩,
    ⟨some 24, .sstr (.t 22) none (some (.t 23)), none⟩,
    ⟨some 2, .mv (.t 24), none⟩,
    ⟨some 3, .mv (.k (.bool true)), none⟩] [2, 3] [])
  (.ret))))
def impl_Unsealed.m : Fn := { np := 1, body := impl_Unsealed.b, res := [.tmp 2, .tmp 3] }
def impl_Unsealed.k (M : Nat → Option Body) : Prop := M 168 = some (.code impl_Unsealed.m) ∧ impl_within.k M ∧ impl_SumOf.k M ∧ impl_fourAt.k M
end Mx

/-
  Small codes: spec.RecordText, impl.RecordText, laws.FnExactRecordText.
-/
namespace Mx
open Go
def spec_RecordText.b : C := .seq (.reg [⟨some 2, .mv (.k (.str ⟨#[]⟩)), none⟩,
    ⟨some 3, .mv (.k (.bool false)), none⟩] [0] [])
  (.seq (.seq (.reg [⟨some 4, .mv (.t 0), none⟩,
    ⟨some 5, .slen (.t 4), none⟩,
    ⟨some 6, .call 98 [.t 5, .k (.int .i64 1), .k (.int .i64 6000)] [] [], none⟩,
    ⟨some 7, .not (.t 6), none⟩] [0, 7] [])
  (.cond (.t 7) (.seq (.reg [⟨some 2, .mv (.k (.str ⟨#[]⟩)), none⟩,
    ⟨some 3, .mv (.k (.bool false)), none⟩] [2, 3] [])
  (.ret)) (.skip)))
  (.seq (.reg [⟨some 8, .mv (.t 0), none⟩,
    ⟨some 9, .slen (.t 8), none⟩,
    ⟨some 10, .call 99 [.t 9] [] [], none⟩,
    ⟨some 11, .mv (.t 0), none⟩,
    ⟨some 12, .bin .add (.t 10) (.t 11), none⟩,
    ⟨some 13, .call 100 [.t 12] [] [], none⟩,
    ⟨some 14, .ext 0 (.t 13), none⟩,
    ⟨some 15, .ext 1 (.t 13), none⟩,
    ⟨some 2, .mv (.t 14), none⟩,
    ⟨some 3, .mv (.t 15), none⟩] [2, 3] [])
  (.ret)))
def spec_RecordText.m : Fn := { np := 1, body := spec_RecordText.b, res := [.tmp 2, .tmp 3] }
def spec_RecordText.k (M : Nat → Option Body) : Prop := M 10 = some (.code spec_RecordText.m) ∧ spec_l01In.k M ∧ spec_l01Var.k M ∧ spec_Sealed.k M
def impl_RecordText.b : C := .seq (.reg [⟨some 2, .mv (.k (.str ⟨#[]⟩)), none⟩,
    ⟨some 3, .mv (.k (.bool false)), none⟩] [0] [])
  (.seq (.seq (.reg [⟨some 4, .mv (.t 0), none⟩,
    ⟨some 5, .slen (.t 4), none⟩,
    ⟨some 6, .call 101 [.t 5, .k (.int .i64 1), .k (.int .i64 6000)] [] [], none⟩,
    ⟨some 7, .not (.t 6), none⟩] [0, 7] [])
  (.cond (.t 7) (.seq (.reg [⟨some 2, .mv (.k (.str ⟨#[]⟩)), none⟩,
    ⟨some 3, .mv (.k (.bool false)), none⟩] [2, 3] [])
  (.ret)) (.skip)))
  (.seq (.reg [⟨some 8, .mv (.t 0), none⟩,
    ⟨some 9, .call 102 [.t 8] [] [], none⟩,
    ⟨some 10, .call 103 [.t 9] [] [], none⟩,
    ⟨some 11, .ext 0 (.t 10), none⟩,
    ⟨some 12, .ext 1 (.t 10), none⟩,
    ⟨some 2, .mv (.t 11), none⟩,
    ⟨some 3, .mv (.t 12), none⟩] [2, 3] [])
  (.ret)))
def impl_RecordText.m : Fn := { np := 1, body := impl_RecordText.b, res := [.tmp 2, .tmp 3] }
def impl_RecordText.k (M : Nat → Option Body) : Prop := M 11 = some (.code impl_RecordText.m) ∧ impl_within.k M ∧ impl_short.k M ∧ impl_Sealed.k M
def laws_FnExactRecordText.b : C := .seq (.reg [⟨some 2, .mv (.k (.bool false)), none⟩] [0] [])
  (.seq (.seq (.reg [⟨some 7, .mv (.t 0), none⟩,
    ⟨some 8, .slen (.t 7), none⟩,
    ⟨some 9, .bin .gtr (.t 8) (.k (.int .i64 1048576)), none⟩] [0, 9] [])
  (.cond (.t 9) (.seq (.reg [⟨some 2, .mv (.k (.bool true)), none⟩] [2] [])
  (.ret)) (.skip)))
  (.seq (.reg [⟨some 11, .mv (.t 0), none⟩,
    ⟨some 12, .call 10 [.t 11] [] [], none⟩,
    ⟨some 10, .mv (.t 12), none⟩,
    ⟨some 13, .ext 0 (.t 10), none⟩,
    ⟨some 14, .ext 1 (.t 10), none⟩,
    ⟨some 3, .mv (.t 13), none⟩,
    ⟨some 4, .mv (.t 14), none⟩] [0, 3, 4] [])
  (.seq (.reg [⟨some 16, .mv (.t 0), none⟩,
    ⟨some 17, .call 11 [.t 16] [] [], none⟩,
    ⟨some 15, .mv (.t 17), none⟩,
    ⟨some 18, .ext 0 (.t 15), none⟩,
    ⟨some 19, .ext 1 (.t 15), none⟩,
    ⟨some 5, .mv (.t 18), none⟩,
    ⟨some 6, .mv (.t 19), none⟩] [3, 4, 5, 6] [])
  (.seq (.seq (.reg [⟨some 20, .mv (.t 5), none⟩,
    ⟨some 21, .mv (.t 3), none⟩,
    ⟨some 22, .bin .neq (.t 20) (.t 21), none⟩,
    ⟨some 23, .mv (.t 22), none⟩,
    ⟨some 24, .mv (.t 6), some (23, false)⟩,
    ⟨some 25, .mv (.t 4), some (23, false)⟩,
    ⟨some 26, .beq true (.t 24) (.t 25), some (23, false)⟩,
    ⟨some 27, .pick (.t 23) (.k (.bool true)) (.t 26), none⟩] [27] [])
  (.cond (.t 27) (.seq (.reg [⟨some 2, .mv (.k (.bool false)), none⟩] [2] [])
  (.ret)) (.skip)))
  (.seq (.reg [⟨some 2, .mv (.k (.bool true)), none⟩] [2] [])
  (.ret))))))
def laws_FnExactRecordText.m : Fn := { np := 1, body := laws_FnExactRecordText.b, res := [.tmp 2] }
def laws_FnExactRecordText.k (M : Nat → Option Body) : Prop := M 363 = some (.code laws_FnExactRecordText.m) ∧ spec_RecordText.k M ∧ impl_RecordText.k M
end Mx

/-
  Small codes: spec.l12Read, spec.ReadRecords, impl.recordAt, impl.ReadRecords, laws.eqStringS, laws.markText, laws.markStringS, laws.heldStringS, laws.FnExactReadRecords.
-/
namespace Mx
open Go
def spec_l12Read.b : C := .seq (.reg [⟨some 4, .mv (.k (.str ⟨#[]⟩)), none⟩,
    ⟨some 5, .mv (.k (.int .i64 0)), none⟩,
    ⟨some 6, .mv (.k (.bool false)), none⟩] [0, 1] [])
  (.seq (.reg [⟨some 13, .mv (.t 0), none⟩,
    ⟨some 14, .mv (.t 1), none⟩,
    ⟨some 15, .call 206 [.t 13, .t 14] [] [], none⟩,
    ⟨some 12, .mv (.t 15), none⟩,
    ⟨some 16, .ext 0 (.t 12), none⟩,
    ⟨some 17, .ext 1 (.t 12), none⟩,
    ⟨some 18, .ext 2 (.t 12), none⟩,
    ⟨some 7, .mv (.t 16), none⟩,
    ⟨some 8, .mv (.t 17), none⟩,
    ⟨some 9, .mv (.t 18), none⟩] [0, 1, 7, 8, 9] [])
  (.seq (.seq (.reg [⟨some 19, .mv (.t 9), none⟩,
    ⟨some 20, .not (.t 19), none⟩,
    ⟨some 21, .mv (.t 20), none⟩,
    ⟨some 22, .mv (.t 8), some (21, false)⟩,
    ⟨some 23, .mv (.t 0), some (21, false)⟩,
    ⟨some 24, .slen (.t 23), some (21, false)⟩,
    ⟨some 25, .bin .sub (.t 24) (.k (.int .i64 4)), some (21, false)⟩,
    ⟨some 26, .bin .gtr (.t 22) (.t 25), some (21, false)⟩,
    ⟨some 27, .pick (.t 21) (.k (.bool true)) (.t 26), none⟩] [0, 1, 7, 8, 27] [])
  (.cond (.t 27) (.seq (.reg [⟨some 4, .mv (.k (.str ⟨#[]⟩)), none⟩,
    ⟨some 5, .mv (.k (.int .i64 0)), none⟩,
    ⟨some 6, .mv (.k (.bool false)), none⟩] [4, 5, 6] [])
  (.ret)) (.skip)))
  (.seq (.reg [⟨some 29, .mv (.t 7), none⟩,
    ⟨some 30, .call 10 [.t 29] [] [], none⟩,
    ⟨some 28, .mv (.t 30), none⟩,
    ⟨some 31, .ext 0 (.t 28), none⟩,
    ⟨some 32, .ext 1 (.t 28), none⟩,
    ⟨some 10, .mv (.t 31), none⟩,
    ⟨some 11, .mv (.t 32), none⟩] [0, 1, 7, 8, 10, 11] [])
  (.seq (.seq (.reg [⟨some 33, .mv (.t 11), none⟩,
    ⟨some 34, .not (.t 33), none⟩,
    ⟨some 35, .mv (.t 34), none⟩,
    ⟨some 36, .mv (.t 10), some (35, false)⟩,
    ⟨some 37, .mv (.t 0), some (35, false)⟩,
    ⟨some 38, .mv (.t 1), some (35, false)⟩,
    ⟨some 39, .mv (.t 8), some (35, false)⟩,
    ⟨some 40, .bin .add (.t 39) (.k (.int .i64 4)), some (35, false)⟩,
    ⟨some 41, .sstr (.t 37) (some (.t 38)) (some (.t 40)), some (35, false)⟩,
    ⟨some 42, .bin .neq (.t 36) (.t 41), some (35, false)⟩,
    ⟨some 43, .pick (.t 35) (.k (.bool true)) (.t 42), none⟩] [7, 8, 43] [])
  (.cond (.t 43) (.seq (.reg [⟨some 4, .mv (.k (.str ⟨#[]⟩)), none⟩,
    ⟨some 5, .mv (.k (.int .i64 0)), none⟩,
    ⟨some 6, .mv (.k (.bool false)), none⟩] [4, 5, 6] [])
  (.ret)) (.skip)))
  (.seq (.reg [⟨some 44, .mv (.t 7), none⟩,
    ⟨some 45, .mv (.t 8), none⟩,
    ⟨some 46, .bin .add (.t 45) (.k (.int .i64 4)), none⟩,
    ⟨some 4, .mv (.t 44), none⟩,
    ⟨some 5, .mv (.t 46), none⟩,
    ⟨some 6, .mv (.k (.bool true)), none⟩] [4, 5, 6] [])
  (.ret))))))
def spec_l12Read.m : Fn := { np := 2, body := spec_l12Read.b, res := [.tmp 4, .tmp 5, .tmp 6] }
def spec_l12Read.k (M : Nat → Option Body) : Prop := M 104 = some (.code spec_l12Read.m) ∧ spec_RecordText.k M ∧ spec_ReadShort.k M
def spec_ReadRecords.l0 : C := .block 1 (.seq (.reg [⟨some 11, .mv (.t 0), none⟩,
    ⟨some 12, .mv (.t 5), none⟩,
    ⟨some 13, .call 104 [.t 11, .t 12] [] [], none⟩,
    ⟨some 10, .mv (.t 13), none⟩,
    ⟨some 14, .ext 0 (.t 10), none⟩,
    ⟨some 15, .ext 1 (.t 10), none⟩,
    ⟨some 16, .ext 2 (.t 10), none⟩,
    ⟨some 6, .mv (.t 14), none⟩,
    ⟨some 7, .mv (.t 15), none⟩,
    ⟨some 8, .mv (.t 16), none⟩] [0, 4, 5, 6, 7, 8] [9, 24])
  (.seq (.seq (.reg [⟨some 17, .mv (.t 8), none⟩,
    ⟨some 18, .not (.t 17), none⟩] [0, 4, 5, 6, 7, 18] [9, 24])
  (.cond (.t 18) (.seq (.reg [⟨some 19, .mv (.t 4), none⟩,
    ⟨some 20, .mv (.t 5), none⟩,
    ⟨some 2, .mv (.t 19), none⟩,
    ⟨some 3, .mv (.t 20), none⟩] [2, 3] [2, 9, 24])
  (.ret)) (.skip)))
  (.seq (.reg [⟨some 21, .mv (.t 4), none⟩,
    ⟨some 22, .mv (.t 6), none⟩,
    ⟨some 23, .bslice 1 1 [.str ⟨#[]⟩] [(0, .t 22)], none⟩,
    ⟨some 24, .app 1 16 (.t 21) (.t 23), none⟩,
    ⟨some 4, .mv (.t 24), none⟩] [0, 4, 7] [9, 24])
  (.reg [⟨some 25, .mv (.t 7), none⟩,
    ⟨some 5, .mv (.t 25), none⟩] [0, 4, 5] [9, 24]))))
def spec_ReadRecords.b : C := .seq (.reg [⟨some 2, .nil 1, none⟩,
    ⟨some 3, .mv (.k (.int .i64 0)), none⟩] [0] [])
  (.seq (.reg [⟨some 9, .bslice 1 0 [.str ⟨#[]⟩] [], none⟩,
    ⟨some 4, .mv (.t 9), none⟩] [0, 4] [9, 24])
  (.seq (.reg [⟨some 5, .mv (.k (.int .i64 0)), none⟩] [0, 4, 5] [9, 24])
  (.block 0 (.loop spec_ReadRecords.l0))))
def spec_ReadRecords.m : Fn := { np := 1, body := spec_ReadRecords.b, res := [.tmp 2, .tmp 3] }
def spec_ReadRecords.k (M : Nat → Option Body) : Prop := M 12 = some (.code spec_ReadRecords.m) ∧ spec_l12Read.k M
def impl_recordAt.b : C := .seq (.reg [⟨some 4, .mv (.k (.str ⟨#[]⟩)), none⟩,
    ⟨some 5, .mv (.k (.int .i64 0)), none⟩,
    ⟨some 6, .mv (.k (.bool false)), none⟩] [0, 1] [])
  (.seq (.reg [⟨some 13, .mv (.t 0), none⟩,
    ⟨some 14, .mv (.t 1), none⟩,
    ⟨some 15, .call 207 [.t 13, .t 14] [] [], none⟩,
    ⟨some 12, .mv (.t 15), none⟩,
    ⟨some 16, .ext 0 (.t 12), none⟩,
    ⟨some 17, .ext 1 (.t 12), none⟩,
    ⟨some 18, .ext 2 (.t 12), none⟩,
    ⟨some 7, .mv (.t 16), none⟩,
    ⟨some 8, .mv (.t 17), none⟩,
    ⟨some 9, .mv (.t 18), none⟩] [0, 1, 7, 8, 9] [])
  (.seq (.seq (.reg [⟨some 19, .mv (.t 9), none⟩,
    ⟨some 20, .not (.t 19), none⟩,
    ⟨some 21, .mv (.t 20), none⟩,
    ⟨some 22, .mv (.t 7), some (21, false)⟩,
    ⟨some 23, .slen (.t 22), some (21, false)⟩,
    ⟨some 24, .call 101 [.t 23, .k (.int .i64 1), .k (.int .i64 6000)] [] [], some (21, false)⟩,
    ⟨some 25, .not (.t 24), some (21, false)⟩,
    ⟨some 26, .pick (.t 21) (.k (.bool true)) (.t 25), none⟩,
    ⟨some 27, .mv (.t 26), none⟩,
    ⟨some 28, .mv (.t 0), some (27, false)⟩,
    ⟨some 29, .slen (.t 28), some (27, false)⟩,
    ⟨some 30, .mv (.t 8), some (27, false)⟩,
    ⟨some 31, .bin .sub (.t 29) (.t 30), some (27, false)⟩,
    ⟨some 32, .bin .lss (.t 31) (.k (.int .i64 4)), some (27, false)⟩,
    ⟨some 33, .pick (.t 27) (.k (.bool true)) (.t 32), none⟩] [0, 1, 7, 8, 33] [])
  (.cond (.t 33) (.seq (.reg [⟨some 4, .mv (.k (.str ⟨#[]⟩)), none⟩,
    ⟨some 5, .mv (.k (.int .i64 0)), none⟩,
    ⟨some 6, .mv (.k (.bool false)), none⟩] [4, 5, 6] [])
  (.ret)) (.skip)))
  (.seq (.seq (.reg [⟨some 35, .mv (.t 0), none⟩,
    ⟨some 36, .mv (.t 1), none⟩,
    ⟨some 37, .mv (.t 8), none⟩,
    ⟨some 38, .bin .add (.t 37) (.k (.int .i64 4)), none⟩,
    ⟨some 39, .sstr (.t 35) (some (.t 36)) (some (.t 38)), none⟩,
    ⟨some 40, .call 168 [.t 39] [] [], none⟩,
    ⟨some 34, .mv (.t 40), none⟩,
    ⟨some 41, .ext 0 (.t 34), none⟩,
    ⟨some 42, .ext 1 (.t 34), none⟩,
    ⟨some 10, .mv (.t 41), none⟩,
    ⟨some 11, .mv (.t 42), none⟩] [7, 8, 11] [])
  (.seq (.reg [⟨some 43, .mv (.t 11), none⟩,
    ⟨some 44, .not (.t 43), none⟩] [7, 8, 44] [])
  (.cond (.t 44) (.seq (.reg [⟨some 4, .mv (.k (.str ⟨#[]⟩)), none⟩,
    ⟨some 5, .mv (.k (.int .i64 0)), none⟩,
    ⟨some 6, .mv (.k (.bool false)), none⟩] [4, 5, 6] [])
  (.ret)) (.skip))))
  (.seq (.reg [⟨some 45, .mv (.t 7), none⟩,
    ⟨some 46, .mv (.t 8), none⟩,
    ⟨some 47, .bin .add (.t 46) (.k (.int .i64 4)), none⟩,
    ⟨some 4, .mv (.t 45), none⟩,
    ⟨some 5, .mv (.t 47), none⟩,
    ⟨some 6, .mv (.k (.bool true)), none⟩] [4, 5, 6] [])
  (.ret)))))
def impl_recordAt.m : Fn := { np := 2, body := impl_recordAt.b, res := [.tmp 4, .tmp 5, .tmp 6] }
def impl_recordAt.k (M : Nat → Option Body) : Prop := M 105 = some (.code impl_recordAt.m) ∧ impl_within.k M ∧ impl_Unsealed.k M ∧ impl_ReadShort.k M
def impl_ReadRecords.l0 : C := .block 1 (.seq (.reg [⟨some 11, .mv (.t 0), none⟩,
    ⟨some 12, .mv (.t 5), none⟩,
    ⟨some 13, .call 105 [.t 11, .t 12] [] [], none⟩,
    ⟨some 10, .mv (.t 13), none⟩,
    ⟨some 14, .ext 0 (.t 10), none⟩,
    ⟨some 15, .ext 1 (.t 10), none⟩,
    ⟨some 16, .ext 2 (.t 10), none⟩,
    ⟨some 6, .mv (.t 14), none⟩,
    ⟨some 7, .mv (.t 15), none⟩,
    ⟨some 8, .mv (.t 16), none⟩] [0, 4, 5, 6, 7, 8] [9, 24])
  (.seq (.seq (.reg [⟨some 17, .mv (.t 8), none⟩,
    ⟨some 18, .not (.t 17), none⟩] [0, 4, 5, 6, 7, 18] [9, 24])
  (.cond (.t 18) (.seq (.reg [⟨some 19, .mv (.t 4), none⟩,
    ⟨some 20, .mv (.t 5), none⟩,
    ⟨some 2, .mv (.t 19), none⟩,
    ⟨some 3, .mv (.t 20), none⟩] [2, 3] [2, 9, 24])
  (.ret)) (.skip)))
  (.seq (.reg [⟨some 21, .mv (.t 4), none⟩,
    ⟨some 22, .mv (.t 6), none⟩,
    ⟨some 23, .bslice 1 1 [.str ⟨#[]⟩] [(0, .t 22)], none⟩,
    ⟨some 24, .app 1 16 (.t 21) (.t 23), none⟩,
    ⟨some 4, .mv (.t 24), none⟩] [0, 4, 7] [9, 24])
  (.reg [⟨some 25, .mv (.t 7), none⟩,
    ⟨some 5, .mv (.t 25), none⟩] [0, 4, 5] [9, 24]))))
def impl_ReadRecords.b : C := .seq (.reg [⟨some 2, .nil 1, none⟩,
    ⟨some 3, .mv (.k (.int .i64 0)), none⟩] [0] [])
  (.seq (.reg [⟨some 9, .bslice 1 0 [.str ⟨#[]⟩] [], none⟩,
    ⟨some 4, .mv (.t 9), none⟩] [0, 4] [9, 24])
  (.seq (.reg [⟨some 5, .mv (.k (.int .i64 0)), none⟩] [0, 4, 5] [9, 24])
  (.block 0 (.loop impl_ReadRecords.l0))))
def impl_ReadRecords.m : Fn := { np := 1, body := impl_ReadRecords.b, res := [.tmp 2, .tmp 3] }
def impl_ReadRecords.k (M : Nat → Option Body) : Prop := M 13 = some (.code impl_ReadRecords.m) ∧ impl_recordAt.k M
def laws_eqStringS.l0 : C := .seq (.seq (.reg [⟨some 11, .mv (.t 5), none⟩,
    ⟨some 12, .mv (.t 0), none⟩,
    ⟨some 13, .len (.t 12), none⟩,
    ⟨some 14, .bin .lss (.t 11) (.t 13), none⟩] [0, 1, 5, 14] [])
  (.cond (.t 14) (.skip) (.exit 0)))
  (.seq (.block 1 (.seq (.regd [⟨some 17, .mv (.t 0), none⟩,
    ⟨some 18, .mv (.t 5), none⟩,
    ⟨some 19, .iaddr 1 (.t 17) (.t 18), none⟩,
    ⟨some 20, .load false 1 (.t 19), none⟩,
    ⟨some 21, .mv (.t 1), none⟩,
    ⟨some 22, .mv (.t 5), none⟩,
    ⟨some 23, .iaddr 1 (.t 21) (.t 22), none⟩,
    ⟨some 24, .load false 1 (.t 23), none⟩,
    ⟨some 25, .bin .neq (.t 20) (.t 24), none⟩] [[], [], [0, 1], [0, 1, 2], [], [], [4, 5], [4, 5, 6], [0, 1, 2, 3, 4, 5, 6, 7]] [0, 1, 5, 25] [])
  (.cond (.t 25) (.seq (.reg [⟨some 4, .mv (.k (.bool false)), none⟩] [4] [])
  (.ret)) (.skip))))
  (.reg [⟨some 15, .mv (.t 5), none⟩,
    ⟨some 16, .bin .add (.t 15) (.k (.int .i64 1)), none⟩,
    ⟨some 5, .mv (.t 16), none⟩] [0, 1, 5] []))
def laws_eqStringS.b : C := .seq (.reg [⟨some 4, .mv (.k (.bool false)), none⟩] [0, 1] [])
  (.seq (.seq (.reg [⟨some 6, .mv (.t 0), none⟩,
    ⟨some 7, .len (.t 6), none⟩,
    ⟨some 8, .mv (.t 1), none⟩,
    ⟨some 9, .len (.t 8), none⟩,
    ⟨some 10, .bin .neq (.t 7) (.t 9), none⟩] [0, 1, 10] [])
  (.cond (.t 10) (.seq (.reg [⟨some 4, .mv (.k (.bool false)), none⟩] [4] [])
  (.ret)) (.skip)))
  (.seq (.seq (.reg [⟨some 5, .mv (.k (.int .i64 0)), none⟩] [0, 1, 5] [])
  (.block 0 (.loop laws_eqStringS.l0)))
  (.seq (.reg [⟨some 4, .mv (.k (.bool true)), none⟩] [4] [])
  (.ret))))
def laws_eqStringS.m : Fn := { np := 2, body := laws_eqStringS.b, res := [.tmp 4] }
def laws_eqStringS.k (M : Nat → Option Body) : Prop := M 14 = some (.code laws_eqStringS.m)
def laws_markText.l0 : C := .seq (.seq (.reg [⟨some 6, .mv (.t 0), none⟩,
    ⟨some 7, .bin .gtr (.t 6) (.k (.int .i64 0)), none⟩] [0, 3, 7] [])
  (.cond (.t 7) (.skip) (.exit 0)))
  (.block 1 (.seq (.reg [⟨some 8, .mv (.t 0), none⟩,
    ⟨some 9, .bin .rem (.t 8) (.k (.int .i64 10)), none⟩,
    ⟨some 10, .bin .add (.k (.int .i64 48)) (.t 9), none⟩,
    ⟨some 11, .i2i .u8 (.t 10), none⟩,
    ⟨some 12, .bslice 1 1 [.int .u8 0] [(0, .t 11)], none⟩,
    ⟨some 13, .b2s (.t 12), none⟩,
    ⟨some 14, .mv (.t 3), none⟩,
    ⟨some 15, .bin .add (.t 13) (.t 14), none⟩,
    ⟨some 3, .mv (.t 15), none⟩] [0, 3] [])
  (.reg [⟨some 16, .mv (.t 0), none⟩,
    ⟨some 17, .bin .quo (.t 16) (.k (.int .i64 10)), none⟩,
    ⟨some 0, .mv (.t 17), none⟩] [0, 3] [])))
def laws_markText.b : C := .seq (.reg [⟨some 2, .mv (.k (.str ⟨#[]⟩)), none⟩] [0] [])
  (.seq (.seq (.reg [⟨some 4, .mv (.t 0), none⟩,
    ⟨some 5, .bin .leq (.t 4) (.k (.int .i64 0)), none⟩] [0, 5] [])
  (.cond (.t 5) (.seq (.reg [⟨some 2, .mv (.k (.str ⟨#[109, 48]⟩)), none⟩] [2] [])
  (.ret)) (.skip)))
  (.seq (.reg [⟨some 3, .mv (.k (.str ⟨#[]⟩)), none⟩] [0, 3] [])
  (.seq (.block 0 (.loop laws_markText.l0))
  (.seq (.reg [⟨some 18, .mv (.t 3), none⟩,
    ⟨some 19, .bin .add (.k (.str ⟨#[109]⟩)) (.t 18), none⟩,
    ⟨some 2, .mv (.t 19), none⟩] [2] [])
  (.ret)))))
def laws_markText.m : Fn := { np := 1, body := laws_markText.b, res := [.tmp 2] }
def laws_markText.k (M : Nat → Option Body) : Prop := M 106 = some (.code laws_markText.m)
def laws_markStringS.l0 : C := .seq (.seq (.reg [⟨some 6, .mv (.t 5), none⟩,
    ⟨some 7, .mv (.t 0), none⟩,
    ⟨some 8, .len (.t 7), none⟩,
    ⟨some 9, .bin .lss (.t 6) (.t 8), none⟩] [0, 1, 5, 9] [0])
  (.cond (.t 9) (.skip) (.exit 0)))
  (.seq (.block 1 (.seq (.reg [⟨some 12, .mv (.t 0), none⟩,
    ⟨some 13, .mv (.t 5), none⟩,
    ⟨some 14, .mv (.t 1), none⟩,
    ⟨some 15, .call 106 [.t 14] [] [], none⟩,
    ⟨some 16, .iaddr 1 (.t 12) (.t 13), none⟩,
    ⟨none, .store 1 (.t 16) (.t 15), none⟩] [0, 1, 5] [0])
  (.reg [⟨some 17, .mv (.t 1), none⟩,
    ⟨some 18, .bin .add (.t 17) (.k (.int .i64 1)), none⟩,
    ⟨some 1, .mv (.t 18), none⟩] [0, 1, 5] [0])))
  (.reg [⟨some 10, .mv (.t 5), none⟩,
    ⟨some 11, .bin .add (.t 10) (.k (.int .i64 1)), none⟩,
    ⟨some 5, .mv (.t 11), none⟩] [0, 1, 5] [0]))
def laws_markStringS.b : C := .seq (.reg [⟨some 4, .mv (.k (.int .i64 0)), none⟩] [0, 1] [0])
  (.seq (.seq (.reg [⟨some 5, .mv (.k (.int .i64 0)), none⟩] [0, 1, 5] [0])
  (.block 0 (.loop laws_markStringS.l0)))
  (.seq (.reg [⟨some 19, .mv (.t 1), none⟩,
    ⟨some 4, .mv (.t 19), none⟩] [4] [0])
  (.ret)))
def laws_markStringS.m : Fn := { np := 2, body := laws_markStringS.b, res := [.tmp 4] }
def laws_markStringS.k (M : Nat → Option Body) : Prop := M 15 = some (.code laws_markStringS.m) ∧ laws_markText.k M
def laws_heldStringS.l0 : C := .seq (.seq (.reg [⟨some 6, .mv (.t 5), none⟩,
    ⟨some 7, .mv (.t 0), none⟩,
    ⟨some 8, .len (.t 7), none⟩,
    ⟨some 9, .bin .lss (.t 6) (.t 8), none⟩] [0, 1, 5, 9] [])
  (.cond (.t 9) (.skip) (.exit 0)))
  (.seq (.block 1 (.seq (.seq (.regd [⟨some 12, .mv (.t 0), none⟩,
    ⟨some 13, .mv (.t 5), none⟩,
    ⟨some 14, .iaddr 1 (.t 12) (.t 13), none⟩,
    ⟨some 15, .load false 1 (.t 14), none⟩,
    ⟨some 16, .mv (.t 1), none⟩,
    ⟨some 17, .call 106 [.t 16] [] [], none⟩,
    ⟨some 18, .bin .neq (.t 15) (.t 17), none⟩] [[], [], [0, 1], [0, 1, 2], [], [4], [0, 1, 2, 3, 4, 5]] [0, 1, 5, 18] [])
  (.cond (.t 18) (.seq (.reg [⟨some 4, .mv (.k (.int .i64 (-1))), none⟩] [4] [])
  (.ret)) (.skip)))
  (.reg [⟨some 19, .mv (.t 1), none⟩,
    ⟨some 20, .bin .add (.t 19) (.k (.int .i64 1)), none⟩,
    ⟨some 1, .mv (.t 20), none⟩] [0, 1, 5] [])))
  (.reg [⟨some 10, .mv (.t 5), none⟩,
    ⟨some 11, .bin .add (.t 10) (.k (.int .i64 1)), none⟩,
    ⟨some 5, .mv (.t 11), none⟩] [0, 1, 5] []))
def laws_heldStringS.b : C := .seq (.reg [⟨some 4, .mv (.k (.int .i64 0)), none⟩] [0, 1] [])
  (.seq (.seq (.reg [⟨some 5, .mv (.k (.int .i64 0)), none⟩] [0, 1, 5] [])
  (.block 0 (.loop laws_heldStringS.l0)))
  (.seq (.reg [⟨some 21, .mv (.t 1), none⟩,
    ⟨some 4, .mv (.t 21), none⟩] [4] [])
  (.ret)))
def laws_heldStringS.m : Fn := { np := 2, body := laws_heldStringS.b, res := [.tmp 4] }
def laws_heldStringS.k (M : Nat → Option Body) : Prop := M 16 = some (.code laws_heldStringS.m) ∧ laws_markText.k M
def laws_FnExactReadRecords.b : C := .seq (.reg [⟨some 2, .mv (.k (.bool false)), none⟩] [0] [])
  (.seq (.seq (.reg [⟨some 11, .mv (.t 0), none⟩,
    ⟨some 12, .slen (.t 11), none⟩,
    ⟨some 13, .bin .gtr (.t 12) (.k (.int .i64 1048576)), none⟩] [0, 13] [])
  (.cond (.t 13) (.seq (.reg [⟨some 2, .mv (.k (.bool true)), none⟩] [2] [])
  (.ret)) (.skip)))
  (.seq (.reg [⟨some 15, .mv (.t 0), none⟩,
    ⟨some 16, .call 12 [.t 15] [] [], none⟩,
    ⟨some 14, .mv (.t 16), none⟩,
    ⟨some 17, .ext 0 (.t 14), none⟩,
    ⟨some 18, .ext 1 (.t 14), none⟩,
    ⟨some 3, .mv (.t 17), none⟩,
    ⟨some 4, .mv (.t 18), none⟩] [0, 3, 4] [])
  (.seq (.reg [⟨some 20, .mv (.t 0), none⟩,
    ⟨some 21, .call 13 [.t 20] [] [(0, 12100)], none⟩,
    ⟨some 19, .mv (.t 21), none⟩,
    ⟨some 22, .ext 0 (.t 19), none⟩,
    ⟨some 23, .ext 1 (.t 19), none⟩,
    ⟨some 5, .mv (.t 22), none⟩,
    ⟨some 6, .mv (.t 23), none⟩] [0, 3, 4, 5, 6] [12100])
  (.seq (.seq (.reg [⟨some 24, .mv (.t 5), none⟩,
    ⟨some 25, .mv (.t 3), none⟩,
    ⟨some 26, .call 14 [.t 24, .t 25] [] [], none⟩,
    ⟨some 27, .not (.t 26), none⟩,
    ⟨some 28, .mv (.t 27), none⟩,
    ⟨some 29, .mv (.t 6), some (28, false)⟩,
    ⟨some 30, .mv (.t 4), some (28, false)⟩,
    ⟨some 31, .bin .neq (.t 29) (.t 30), some (28, false)⟩,
    ⟨some 32, .pick (.t 28) (.k (.bool true)) (.t 31), none⟩] [0, 3, 4, 5, 32] [12100])
  (.cond (.t 32) (.seq (.reg [⟨some 2, .mv (.k (.bool false)), none⟩] [2] [])
  (.ret)) (.skip)))
  (.seq (.reg [⟨some 7, .mv (.k (.int .i64 1)), none⟩] [0, 3, 4, 5, 7] [12100])
  (.seq (.reg [⟨some 33, .mv (.t 5), none⟩,
    ⟨some 34, .mv (.t 7), none⟩,
    ⟨some 35, .call 15 [.t 33, .t 34] [0] [], none⟩,
    ⟨some 7, .mv (.t 35), none⟩] [0, 3, 4, 5, 7] [12100])
  (.seq (.reg [⟨some 8, .mv (.k (.int .i64 1)), none⟩] [0, 3, 4, 5, 7, 8] [12100])
  (.seq (.reg [⟨some 36, .mv (.t 5), none⟩,
    ⟨some 37, .mv (.t 8), none⟩,
    ⟨some 38, .call 16 [.t 36, .t 37] [] [], none⟩,
    ⟨some 8, .mv (.t 38), none⟩] [0, 3, 4, 5, 7, 8] [12100])
  (.seq (.seq (.reg [⟨some 39, .mv (.t 8), none⟩,
    ⟨some 40, .bin .lss (.t 39) (.k (.int .i64 0)), none⟩] [0, 3, 4, 5, 7, 8, 40] [12100])
  (.cond (.t 40) (.seq (.reg [⟨some 2, .mv (.k (.bool false)), none⟩] [2] [])
  (.ret)) (.skip)))
  (.seq (.seq (.reg [⟨some 41, .mv (.t 8), none⟩,
    ⟨some 42, .mv (.t 7), none⟩,
    ⟨some 43, .bin .neq (.t 41) (.t 42), none⟩] [0, 3, 4, 5, 7, 43] [12100])
  (.cond (.t 43) (.seq (.reg [⟨some 2, .mv (.k (.bool false)), none⟩] [2] [])
  (.ret)) (.skip)))
  (.seq (.reg [⟨some 45, .mv (.t 0), none⟩,
    ⟨some 46, .call 13 [.t 45] [] [], none⟩,
    ⟨some 44, .mv (.t 46), none⟩,
    ⟨some 47, .ext 0 (.t 44), none⟩,
    ⟨some 48, .ext 1 (.t 44), none⟩,
    ⟨some 9, .mv (.t 47), none⟩,
    ⟨some 10, .mv (.t 48), none⟩] [3, 4, 5, 7, 9, 10] [12100])
  (.seq (.seq (.reg [⟨some 49, .mv (.t 9), none⟩,
    ⟨some 50, .mv (.t 3), none⟩,
    ⟨some 51, .call 14 [.t 49, .t 50] [] [], none⟩,
    ⟨some 52, .not (.t 51), none⟩,
    ⟨some 53, .mv (.t 52), none⟩,
    ⟨some 54, .mv (.t 10), some (53, false)⟩,
    ⟨some 55, .mv (.t 4), some (53, false)⟩,
    ⟨some 56, .bin .neq (.t 54) (.t 55), some (53, false)⟩,
    ⟨some 57, .pick (.t 53) (.k (.bool true)) (.t 56), none⟩] [5, 7, 57] [12100])
  (.cond (.t 57) (.seq (.reg [⟨some 2, .mv (.k (.bool false)), none⟩] [2] [])
  (.ret)) (.skip)))
  (.seq (.reg [⟨some 8, .mv (.k (.int .i64 1)), none⟩] [5, 7, 8] [12100])
  (.seq (.reg [⟨some 58, .mv (.t 5), none⟩,
    ⟨some 59, .mv (.t 8), none⟩,
    ⟨some 60, .call 16 [.t 58, .t 59] [] [], none⟩,
    ⟨some 8, .mv (.t 60), none⟩] [7, 8] [])
  (.seq (.seq (.reg [⟨some 61, .mv (.t 8), none⟩,
    ⟨some 62, .bin .lss (.t 61) (.k (.int .i64 0)), none⟩] [7, 8, 62] [])
  (.cond (.t 62) (.seq (.reg [⟨some 2, .mv (.k (.bool false)), none⟩] [2] [])
  (.ret)) (.skip)))
  (.seq (.seq (.reg [⟨some 63, .mv (.t 8), none⟩,
    ⟨some 64, .mv (.t 7), none⟩,
    ⟨some 65, .bin .neq (.t 63) (.t 64), none⟩] [65] [])
  (.cond (.t 65) (.seq (.reg [⟨some 2, .mv (.k (.bool false)), none⟩] [2] [])
  (.ret)) (.skip)))
  (.seq (.reg [⟨some 2, .mv (.k (.bool true)), none⟩] [2] [])
  (.ret))))))))))))))))))
def laws_FnExactReadRecords.m : Fn := { np := 1, body := laws_FnExactReadRecords.b, res := [.tmp 2] }
def laws_FnExactReadRecords.k (M : Nat → Option Body) : Prop := M 364 = some (.code laws_FnExactReadRecords.m) ∧ spec_ReadRecords.k M ∧ impl_ReadRecords.k M ∧ laws_eqStringS.k M ∧ laws_markStringS.k M ∧ laws_heldStringS.k M
end Mx

/-
  Small codes: (*impl.scan).num, (*impl.scan).many, (*impl.scan).short, (*impl.scan).stamp, (*impl.scan).nums, (*impl.scan).mail, (*impl.scan).box, spec.l05Var, spec.l05Short, spec.l10Ints, spec.ReadMail, spec.ReadBox.
-/
namespace Mx
open Go
def impl_scan_num.b : C := .seq (.reg [⟨some 2, .mv (.k (.int .i64 0)), none⟩] [0] [0])
  (.seq (.regd [⟨some 7, .mv (.t 0), none⟩,
    ⟨some 8, .nilc (.t 7), none⟩,
    ⟨some 9, .faddr 0 (.t 8), none⟩,
    ⟨some 10, .load false 1 (.t 9), none⟩,
    ⟨some 11, .mv (.t 0), none⟩,
    ⟨some 12, .nilc (.t 11), none⟩,
    ⟨some 13, .faddr 1 (.t 12), none⟩,
    ⟨some 14, .load false 1 (.t 13), none⟩,
    ⟨some 15, .call 231 [.t 10, .t 14] [] [], none⟩,
    ⟨some 6, .mv (.t 15), none⟩,
    ⟨some 16, .ext 0 (.t 6), none⟩,
    ⟨some 17, .ext 1 (.t 6), none⟩,
    ⟨some 18, .ext 2 (.t 6), none⟩,
    ⟨some 3, .mv (.t 16), none⟩,
    ⟨some 4, .mv (.t 17), none⟩,
    ⟨some 5, .mv (.t 18), none⟩] [[], [0], [0, 1], [0, 1, 2], [], [4], [4, 5], [4, 5, 6], List.range 8, List.range 9, List.range 10, List.range 10, List.range 10, List.range 11, List.range 12 ++ [13], List.range 15] [0, 3, 4, 5] [0])
  (.seq (.seq (.reg [⟨some 19, .mv (.t 0), none⟩,
    ⟨some 20, .nilc (.t 19), none⟩,
    ⟨some 21, .faddr 2 (.t 20), none⟩,
    ⟨some 22, .load false 1 (.t 21), none⟩,
    ⟨some 23, .mv (.t 22), none⟩,
    ⟨some 24, .mv (.t 5), some (23, false)⟩,
    ⟨some 25, .not (.t 24), some (23, false)⟩,
    ⟨some 26, .pick (.t 23) (.k (.bool true)) (.t 25), none⟩] [0, 3, 4, 26] [0])
  (.cond (.t 26) (.seq (.reg [⟨some 27, .mv (.t 0), none⟩,
    ⟨some 28, .nilc (.t 27), none⟩,
    ⟨some 29, .faddr 2 (.t 28), none⟩,
    ⟨none, .store 1 (.t 29) (.k (.bool true)), none⟩] [] [0])
  (.seq (.reg [⟨some 2, .mv (.k (.int .i64 0)), none⟩] [2] [0])
  (.ret))) (.skip)))
  (.seq (.reg [⟨some 30, .mv (.t 0), none⟩,
    ⟨some 31, .mv (.t 4), none⟩,
    ⟨some 32, .nilc (.t 30), none⟩,
    ⟨some 33, .faddr 1 (.t 32), none⟩,
    ⟨none, .store 1 (.t 33) (.t 31), none⟩] [3] [0])
  (.seq (.reg [⟨some 34, .mv (.t 3), none⟩,
    ⟨some 2, .mv (.t 34), none⟩] [2] [0])
  (.ret)))))
def impl_scan_num.m : Fn := { np := 1, body := impl_scan_num.b, res := [.tmp 2] }
def impl_scan_num.k (M : Nat → Option Body) : Prop := M 152 = some (.code impl_scan_num.m) ∧ impl_ReadVar.k M
def impl_scan_many.b : C := .seq (.reg [⟨some 4, .mv (.k (.int .i64 0)), none⟩] [0, 1] [0])
  (.seq (.reg [⟨some 6, .mv (.t 0), none⟩,
    ⟨some 7, .call 152 [.t 6] [0] [], none⟩,
    ⟨some 5, .mv (.t 7), none⟩] [0, 1, 5] [0])
  (.seq (.seq (.reg [⟨some 8, .mv (.t 5), none⟩,
    ⟨some 9, .mv (.t 1), none⟩,
    ⟨some 10, .bin .gtr (.t 8) (.t 9), none⟩] [0, 5, 10] [0])
  (.cond (.t 10) (.reg [⟨some 11, .mv (.t 0), none⟩,
    ⟨some 12, .nilc (.t 11), none⟩,
    ⟨some 13, .faddr 2 (.t 12), none⟩,
    ⟨none, .store 1 (.t 13) (.k (.bool true)), none⟩] [0, 5] [0]) (.skip)))
  (.seq (.seq (.reg [⟨some 14, .mv (.t 0), none⟩,
    ⟨some 15, .nilc (.t 14), none⟩,
    ⟨some 16, .faddr 2 (.t 15), none⟩,
    ⟨some 17, .load false 1 (.t 16), none⟩] [5, 17] [0])
  (.cond (.t 17) (.seq (.reg [⟨some 4, .mv (.k (.int .i64 0)), none⟩] [4] [0])
  (.ret)) (.skip)))
  (.seq (.reg [⟨some 18, .mv (.t 5), none⟩,
    ⟨some 4, .mv (.t 18), none⟩] [4] [0])
  (.ret)))))
def impl_scan_many.m : Fn := { np := 2, body := impl_scan_many.b, res := [.tmp 4] }
def impl_scan_many.k (M : Nat → Option Body) : Prop := M 169 = some (.code impl_scan_many.m) ∧ impl_scan_num.k M
def impl_scan_short.b : C := .seq (.reg [⟨some 2, .mv (.k (.str ⟨#[]⟩)), none⟩] [0] [0])
  (.seq (.regd [⟨some 7, .mv (.t 0), none⟩,
    ⟨some 8, .nilc (.t 7), none⟩,
    ⟨some 9, .faddr 0 (.t 8), none⟩,
    ⟨some 10, .load false 1 (.t 9), none⟩,
    ⟨some 11, .mv (.t 0), none⟩,
    ⟨some 12, .nilc (.t 11), none⟩,
    ⟨some 13, .faddr 1 (.t 12), none⟩,
    ⟨some 14, .load false 1 (.t 13), none⟩,
    ⟨some 15, .call 207 [.t 10, .t 14] [] [], none⟩,
    ⟨some 6, .mv (.t 15), none⟩,
    ⟨some 16, .ext 0 (.t 6), none⟩,
    ⟨some 17, .ext 1 (.t 6), none⟩,
    ⟨some 18, .ext 2 (.t 6), none⟩,
    ⟨some 3, .mv (.t 16), none⟩,
    ⟨some 4, .mv (.t 17), none⟩,
    ⟨some 5, .mv (.t 18), none⟩] [[], [0], [0, 1], [0, 1, 2], [], [4], [4, 5], [4, 5, 6], List.range 8, List.range 9, List.range 10, List.range 10, List.range 10, List.range 11, List.range 12 ++ [13], List.range 15] [0, 3, 4, 5] [0])
  (.seq (.seq (.reg [⟨some 19, .mv (.t 0), none⟩,
    ⟨some 20, .nilc (.t 19), none⟩,
    ⟨some 21, .faddr 2 (.t 20), none⟩,
    ⟨some 22, .load false 1 (.t 21), none⟩,
    ⟨some 23, .mv (.t 22), none⟩,
    ⟨some 24, .mv (.t 5), some (23, false)⟩,
    ⟨some 25, .not (.t 24), some (23, false)⟩,
    ⟨some 26, .pick (.t 23) (.k (.bool true)) (.t 25), none⟩] [0, 3, 4, 26] [0])
  (.cond (.t 26) (.seq (.reg [⟨some 27, .mv (.t 0), none⟩,
    ⟨some 28, .nilc (.t 27), none⟩,
    ⟨some 29, .faddr 2 (.t 28), none⟩,
    ⟨none, .store 1 (.t 29) (.k (.bool true)), none⟩] [] [0])
  (.seq (.reg [⟨some 2, .mv (.k (.str ⟨#[]⟩)), none⟩] [2] [0])
  (.ret))) (.skip)))
  (.seq (.reg [⟨some 30, .mv (.t 0), none⟩,
    ⟨some 31, .mv (.t 4), none⟩,
    ⟨some 32, .nilc (.t 30), none⟩,
    ⟨some 33, .faddr 1 (.t 32), none⟩,
    ⟨none, .store 1 (.t 33) (.t 31), none⟩] [3] [0])
  (.seq (.reg [⟨some 34, .mv (.t 3), none⟩,
    ⟨some 2, .mv (.t 34), none⟩] [2] [0])
  (.ret)))))
def impl_scan_short.m : Fn := { np := 1, body := impl_scan_short.b, res := [.tmp 2] }
def impl_scan_short.k (M : Nat → Option Body) : Prop := M 153 = some (.code impl_scan_short.m) ∧ impl_ReadShort.k M
def impl_scan_stamp.b : C := .seq (.reg [⟨some 2, .alloc [.int .i64 0, .int .i64 0], none⟩] [0, 2] [0, 2])
  (.seq (.reg [⟨some 4, .mv (.t 0), none⟩,
    ⟨some 5, .call 152 [.t 4] [0] [], none⟩,
    ⟨some 6, .build [.int .i64 0, .int .i64 0] [(0, 1, .t 5)], none⟩,
    ⟨some 3, .alloc [.int .i64 0, .int .i64 0], none⟩,
    ⟨none, .store 2 (.t 3) (.t 6), none⟩] [0, 2, 3] [0, 2, 3])
  (.seq (.reg [⟨some 7, .mv (.t 0), none⟩,
    ⟨some 8, .call 152 [.t 7] [0] [], none⟩,
    ⟨some 9, .faddr 1 (.t 3), none⟩,
    ⟨none, .store 1 (.t 9) (.t 8), none⟩] [2, 3] [0, 2, 3])
  (.seq (.reg [⟨some 10, .load true 2 (.t 3), none⟩,
    ⟨none, .store 2 (.t 2) (.t 10), none⟩] [2] [0, 2])
  (.ret))))
def impl_scan_stamp.m : Fn := { np := 1, body := impl_scan_stamp.b, res := [.cell 2 true 2] }
def impl_scan_stamp.k (M : Nat → Option Body) : Prop := M 222 = some (.code impl_scan_stamp.m) ∧ impl_scan_num.k M
def impl_scan_nums.l0 : C := .seq (.reg [⟨some 14, .bin .lss (.t 13) (.t 12), none⟩] [0, 5, 12, 13, 14] [0, 8, 20])
  (.seq (.cond (.t 14) (.skip) (.exit 0))
  (.seq (.block 1 (.seq (.reg [⟨some 15, .mv (.t 0), none⟩,
    ⟨some 16, .call 152 [.t 15] [0] [], none⟩,
    ⟨some 7, .mv (.t 16), none⟩] [0, 5, 7, 12, 13] [0, 8, 20])
  (.reg [⟨some 17, .mv (.t 5), none⟩,
    ⟨some 18, .mv (.t 7), none⟩,
    ⟨some 19, .bslice 1 1 [.int .i64 0] [(0, .t 18)], none⟩,
    ⟨some 20, .app 1 8 (.t 17) (.t 19), none⟩,
    ⟨some 5, .mv (.t 20), none⟩] [0, 5, 12, 13] [0, 8, 20])))
  (.reg [⟨some 21, .bin .add (.t 13) (.k (.int .i64 1)), none⟩,
    ⟨some 13, .mv (.t 21), none⟩] [0, 5, 12, 13] [0, 8, 20])))
def impl_scan_nums.b : C := .seq (.reg [⟨some 4, .nil 1, none⟩] [0, 1] [0])
  (.seq (.reg [⟨some 8, .bslice 1 0 [.int .i64 0] [], none⟩,
    ⟨some 5, .mv (.t 8), none⟩] [0, 1, 5] [0, 8, 20])
  (.seq (.reg [⟨some 9, .mv (.t 0), none⟩,
    ⟨some 10, .mv (.t 1), none⟩,
    ⟨some 11, .call 169 [.t 9, .t 10] [0] [], none⟩,
    ⟨some 6, .mv (.t 11), none⟩] [0, 5, 6] [0, 8, 20])
  (.seq (.seq (.reg [⟨some 12, .mv (.t 6), none⟩,
    ⟨some 13, .mv (.k (.int .i64 0)), none⟩] [0, 5, 12, 13] [0, 8, 20])
  (.block 0 (.loop impl_scan_nums.l0)))
  (.seq (.reg [⟨some 22, .mv (.t 5), none⟩,
    ⟨some 4, .mv (.t 22), none⟩] [4] [0, 4, 8, 20])
  (.ret)))))
def impl_scan_nums.m : Fn := { np := 2, body := impl_scan_nums.b, res := [.tmp 4] }
def impl_scan_nums.k (M : Nat → Option Body) : Prop := M 170 = some (.code impl_scan_nums.m) ∧ impl_scan_num.k M ∧ impl_scan_many.k M
def impl_scan_mail.l0 : C := .seq (.reg [⟨some 12, .bin .lss (.t 11) (.k (.int .i64 3)), none⟩] [0, 2, 3, 11, 12] [0, 2, 3, 23])
  (.seq (.cond (.t 12) (.skip) (.exit 0))
  (.seq (.block 1 (.seq (.reg [⟨some 13, .mv (.t 0), none⟩,
    ⟨some 14, .call 152 [.t 13] [0] [], none⟩,
    ⟨some 15, .build [.int .i64 0, .int .i64 0, .int .i64 0] [(0, 1, .t 14)], none⟩,
    ⟨some 4, .alloc [.int .i64 0, .int .i64 0, .int .i64 0], none⟩,
    ⟨none, .store 3 (.t 4) (.t 15), none⟩] [0, 2, 3, 4, 11] [0, 2, 3, 4, 23])
  (.seq (.reg [⟨some 16, .mv (.t 0), none⟩,
    ⟨some 17, .call 222 [.t 16] [0] [], none⟩,
    ⟨some 18, .faddr 1 (.t 4), none⟩,
    ⟨none, .store 2 (.t 18) (.t 17), none⟩] [0, 2, 3, 4, 11] [0, 2, 3, 4, 23])
  (.reg [⟨some 19, .faddr 2 (.t 3), none⟩,
    ⟨some 20, .load false 1 (.t 19), none⟩,
    ⟨some 21, .load true 3 (.t 4), none⟩,
    ⟨some 22, .bslice 3 1 [.int .i64 0, .int .i64 0, .int .i64 0] [(0, .t 21)], none⟩,
    ⟨some 23, .app 3 24 (.t 20) (.t 22), none⟩,
    ⟨some 24, .faddr 2 (.t 3), none⟩,
    ⟨none, .store 1 (.t 24) (.t 23), none⟩] [0, 2, 3, 11] [0, 2, 3, 23]))))
  (.reg [⟨some 25, .bin .add (.t 11) (.k (.int .i64 1)), none⟩,
    ⟨some 11, .mv (.t 25), none⟩] [0, 2, 3, 11] [0, 2, 3, 23])))
def impl_scan_mail.b : C := .seq (.reg [⟨some 2, .alloc [.int .i64 0, .int .i64 0, .nils 3, .str ⟨#[]⟩], none⟩] [0, 2] [0, 2, 23])
  (.seq (.reg [⟨some 5, .mv (.t 0), none⟩,
    ⟨some 6, .call 152 [.t 5] [0] [], none⟩,
    ⟨some 7, .build [.int .i64 0, .int .i64 0, .nils 3, .str ⟨#[]⟩] [(0, 1, .t 6)], none⟩,
    ⟨some 3, .alloc [.int .i64 0, .int .i64 0, .nils 3, .str ⟨#[]⟩], none⟩,
    ⟨none, .store 4 (.t 3) (.t 7), none⟩] [0, 2, 3] [0, 2, 3, 23])
  (.seq (.reg [⟨some 8, .mv (.t 0), none⟩,
    ⟨some 9, .call 152 [.t 8] [0] [], none⟩,
    ⟨some 10, .faddr 1 (.t 3), none⟩,
    ⟨none, .store 1 (.t 10) (.t 9), none⟩] [0, 2, 3] [0, 2, 3, 23])
  (.seq (.seq (.reg [⟨some 11, .mv (.k (.int .i64 0)), none⟩] [0, 2, 3, 11] [0, 2, 3, 23])
  (.block 0 (.loop impl_scan_mail.l0)))
  (.seq (.reg [⟨some 26, .mv (.t 0), none⟩,
    ⟨some 27, .call 153 [.t 26] [0] [], none⟩,
    ⟨some 28, .faddr 3 (.t 3), none⟩,
    ⟨none, .store 1 (.t 28) (.t 27), none⟩] [2, 3] [0, 2, 3, 23])
  (.seq (.reg [⟨some 29, .load true 4 (.t 3), none⟩,
    ⟨none, .store 4 (.t 2) (.t 29), none⟩] [2] [0, 2, 23])
  (.ret))))))
def impl_scan_mail.m : Fn := { np := 1, body := impl_scan_mail.b, res := [.cell 2 true 4] }
def impl_scan_mail.k (M : Nat → Option Body) : Prop := M 223 = some (.code impl_scan_mail.m) ∧ impl_scan_num.k M ∧ impl_scan_short.k M ∧ impl_scan_stamp.k M
def impl_scan_box.l0 : C := .seq (.reg [⟨some 22, .bin .lss (.t 21) (.t 20), none⟩] [0, 2, 3, 20, 21, 22] [0, 2, 3, 29, 13300])
  (.seq (.cond (.t 22) (.skip) (.exit 0))
  (.seq (.block 1 (.seq (.reg [⟨some 23, .mv (.t 0), none⟩,
    ⟨some 24, .call 223 [.t 23] [0] [], none⟩,
    ⟨some 5, .alloc [.int .i64 0, .int .i64 0, .nils 3, .str ⟨#[]⟩], none⟩,
    ⟨none, .store 4 (.t 5) (.t 24), none⟩] [0, 2, 3, 5, 20, 21] [0, 2, 3, 5, 29, 13300])
  (.reg [⟨some 25, .faddr 5 (.t 3), none⟩,
    ⟨some 26, .load false 1 (.t 25), none⟩,
    ⟨some 27, .load true 4 (.t 5), none⟩,
    ⟨some 28, .bslice 4 1 [.int .i64 0, .int .i64 0, .nils 3, .str ⟨#[]⟩] [(0, .t 27)], none⟩,
    ⟨some 29, .app 4 56 (.t 26) (.t 28), none⟩,
    ⟨some 30, .faddr 5 (.t 3), none⟩,
    ⟨none, .store 1 (.t 30) (.t 29), none⟩] [0, 2, 3, 20, 21] [0, 2, 3, 29, 13300])))
  (.reg [⟨some 31, .bin .add (.t 21) (.k (.int .i64 1)), none⟩,
    ⟨some 21, .mv (.t 31), none⟩] [0, 2, 3, 20, 21] [0, 2, 3, 29, 13300])))
def impl_scan_box.b : C := .seq (.reg [⟨some 2, .alloc [.int .i64 0, .str ⟨#[]⟩, .int .i64 0, .int .i64 0, .int .i64 0, .nils 4, .nils 1], none⟩] [0, 2] [0, 2, 29, 13300])
  (.seq (.reg [⟨some 6, .mv (.t 0), none⟩,
    ⟨some 7, .call 152 [.t 6] [0] [], none⟩,
    ⟨some 8, .build [.int .i64 0, .str ⟨#[]⟩, .int .i64 0, .int .i64 0, .int .i64 0, .nils 4, .nils 1] [(0, 1, .t 7)], none⟩,
    ⟨some 3, .alloc [.int .i64 0, .str ⟨#[]⟩, .int .i64 0, .int .i64 0, .int .i64 0, .nils 4, .nils 1], none⟩,
    ⟨none, .store 7 (.t 3) (.t 8), none⟩] [0, 2, 3] [0, 2, 3, 29, 13300])
  (.seq (.reg [⟨some 9, .mv (.t 0), none⟩,
    ⟨some 10, .call 153 [.t 9] [0] [], none⟩,
    ⟨some 11, .faddr 1 (.t 3), none⟩,
    ⟨none, .store 1 (.t 11) (.t 10), none⟩] [0, 2, 3] [0, 2, 3, 29, 13300])
  (.seq (.reg [⟨some 12, .mv (.t 0), none⟩,
    ⟨some 13, .call 222 [.t 12] [0] [], none⟩,
    ⟨some 14, .faddr 2 (.t 3), none⟩,
    ⟨none, .store 2 (.t 14) (.t 13), none⟩] [0, 2, 3] [0, 2, 3, 29, 13300])
  (.seq (.reg [⟨some 15, .mv (.t 0), none⟩,
    ⟨some 16, .call 152 [.t 15] [0] [], none⟩,
    ⟨some 17, .faddr 4 (.t 3), none⟩,
    ⟨none, .store 1 (.t 17) (.t 16), none⟩] [0, 2, 3] [0, 2, 3, 29, 13300])
  (.seq (.reg [⟨some 18, .mv (.t 0), none⟩,
    ⟨some 19, .call 169 [.t 18, .k (.int .i64 10)] [0] [], none⟩,
    ⟨some 4, .mv (.t 19), none⟩] [0, 2, 3, 4] [0, 2, 3, 29, 13300])
  (.seq (.seq (.reg [⟨some 20, .mv (.t 4), none⟩,
    ⟨some 21, .mv (.k (.int .i64 0)), none⟩] [0, 2, 3, 20, 21] [0, 2, 3, 29, 13300])
  (.block 0 (.loop impl_scan_box.l0)))
  (.seq (.reg [⟨some 32, .mv (.t 0), none⟩,
    ⟨some 33, .call 170 [.t 32, .k (.int .i64 40)] [0] [(0, 13300)], none⟩,
    ⟨some 34, .faddr 6 (.t 3), none⟩,
    ⟨none, .store 1 (.t 34) (.t 33), none⟩] [2, 3] [0, 2, 3, 29, 13300])
  (.seq (.reg [⟨some 35, .load true 7 (.t 3), none⟩,
    ⟨none, .store 7 (.t 2) (.t 35), none⟩] [2] [0, 2, 29, 13300])
  (.ret)))))))))
def impl_scan_box.m : Fn := { np := 1, body := impl_scan_box.b, res := [.cell 2 true 7] }
def impl_scan_box.k (M : Nat → Option Body) : Prop := M 143 = some (.code impl_scan_box.m) ∧ impl_scan_num.k M ∧ impl_scan_short.k M ∧ impl_scan_many.k M ∧ impl_scan_nums.k M ∧ impl_scan_stamp.k M ∧ impl_scan_mail.k M
def spec_l05Var.b : C := .seq (.reg [⟨some 2, .mv (.k (.int .i64 0)), none⟩] [0] [0])
  (.seq (.regd [⟨some 7, .mv (.t 0), none⟩,
    ⟨some 8, .nilc (.t 7), none⟩,
    ⟨some 9, .faddr 0 (.t 8), none⟩,
    ⟨some 10, .load false 1 (.t 9), none⟩,
    ⟨some 11, .mv (.t 0), none⟩,
    ⟨some 12, .nilc (.t 11), none⟩,
    ⟨some 13, .faddr 1 (.t 12), none⟩,
    ⟨some 14, .load false 1 (.t 13), none⟩,
    ⟨some 15, .call 221 [.t 10, .t 14] [] [], none⟩,
    ⟨some 6, .mv (.t 15), none⟩,
    ⟨some 16, .ext 0 (.t 6), none⟩,
    ⟨some 17, .ext 1 (.t 6), none⟩,
    ⟨some 18, .ext 2 (.t 6), none⟩,
    ⟨some 3, .mv (.t 16), none⟩,
    ⟨some 4, .mv (.t 17), none⟩,
    ⟨some 5, .mv (.t 18), none⟩] [[], [0], [0, 1], [0, 1, 2], [], [4], [4, 5], [4, 5, 6], List.range 8, List.range 9, List.range 10, List.range 10, List.range 10, List.range 11, List.range 12 ++ [13], List.range 15] [0, 3, 4, 5] [0])
  (.seq (.seq (.reg [⟨some 19, .mv (.t 0), none⟩,
    ⟨some 20, .nilc (.t 19), none⟩,
    ⟨some 21, .faddr 2 (.t 20), none⟩,
    ⟨some 22, .load false 1 (.t 21), none⟩,
    ⟨some 23, .mv (.t 22), none⟩,
    ⟨some 24, .mv (.t 5), some (23, false)⟩,
    ⟨some 25, .not (.t 24), some (23, false)⟩,
    ⟨some 26, .pick (.t 23) (.k (.bool true)) (.t 25), none⟩] [0, 3, 4, 26] [0])
  (.cond (.t 26) (.seq (.reg [⟨some 27, .mv (.t 0), none⟩,
    ⟨some 28, .nilc (.t 27), none⟩,
    ⟨some 29, .faddr 2 (.t 28), none⟩,
    ⟨none, .store 1 (.t 29) (.k (.bool true)), none⟩] [] [0])
  (.seq (.reg [⟨some 2, .mv (.k (.int .i64 0)), none⟩] [2] [0])
  (.ret))) (.skip)))
  (.seq (.reg [⟨some 30, .mv (.t 0), none⟩,
    ⟨some 31, .mv (.t 4), none⟩,
    ⟨some 32, .nilc (.t 30), none⟩,
    ⟨some 33, .faddr 1 (.t 32), none⟩,
    ⟨none, .store 1 (.t 33) (.t 31), none⟩] [3] [0])
  (.seq (.reg [⟨some 34, .mv (.t 3), none⟩,
    ⟨some 2, .mv (.t 34), none⟩] [2] [0])
  (.ret)))))
def spec_l05Var.m : Fn := { np := 1, body := spec_l05Var.b, res := [.tmp 2] }
def spec_l05Var.k (M : Nat → Option Body) : Prop := M 139 = some (.code spec_l05Var.m) ∧ spec_ReadVar.k M
def spec_l05Short.b : C := .seq (.reg [⟨some 2, .mv (.k (.str ⟨#[]⟩)), none⟩] [0] [0])
  (.seq (.regd [⟨some 7, .mv (.t 0), none⟩,
    ⟨some 8, .nilc (.t 7), none⟩,
    ⟨some 9, .faddr 0 (.t 8), none⟩,
    ⟨some 10, .load false 1 (.t 9), none⟩,
    ⟨some 11, .mv (.t 0), none⟩,
    ⟨some 12, .nilc (.t 11), none⟩,
    ⟨some 13, .faddr 1 (.t 12), none⟩,
    ⟨some 14, .load false 1 (.t 13), none⟩,
    ⟨some 15, .call 206 [.t 10, .t 14] [] [], none⟩,
    ⟨some 6, .mv (.t 15), none⟩,
    ⟨some 16, .ext 0 (.t 6), none⟩,
    ⟨some 17, .ext 1 (.t 6), none⟩,
    ⟨some 18, .ext 2 (.t 6), none⟩,
    ⟨some 3, .mv (.t 16), none⟩,
    ⟨some 4, .mv (.t 17), none⟩,
    ⟨some 5, .mv (.t 18), none⟩] [[], [0], [0, 1], [0, 1, 2], [], [4], [4, 5], [4, 5, 6], List.range 8, List.range 9, List.range 10, List.range 10, List.range 10, List.range 11, List.range 12 ++ [13], List.range 15] [0, 3, 4, 5] [0])
  (.seq (.seq (.reg [⟨some 19, .mv (.t 0), none⟩,
    ⟨some 20, .nilc (.t 19), none⟩,
    ⟨some 21, .faddr 2 (.t 20), none⟩,
    ⟨some 22, .load false 1 (.t 21), none⟩,
    ⟨some 23, .mv (.t 22), none⟩,
    ⟨some 24, .mv (.t 5), some (23, false)⟩,
    ⟨some 25, .not (.t 24), some (23, false)⟩,
    ⟨some 26, .pick (.t 23) (.k (.bool true)) (.t 25), none⟩] [0, 3, 4, 26] [0])
  (.cond (.t 26) (.seq (.reg [⟨some 27, .mv (.t 0), none⟩,
    ⟨some 28, .nilc (.t 27), none⟩,
    ⟨some 29, .faddr 2 (.t 28), none⟩,
    ⟨none, .store 1 (.t 29) (.k (.bool true)), none⟩] [] [0])
  (.seq (.reg [⟨some 2, .mv (.k (.str ⟨#[]⟩)), none⟩] [2] [0])
  (.ret))) (.skip)))
  (.seq (.reg [⟨some 30, .mv (.t 0), none⟩,
    ⟨some 31, .mv (.t 4), none⟩,
    ⟨some 32, .nilc (.t 30), none⟩,
    ⟨some 33, .faddr 1 (.t 32), none⟩,
    ⟨none, .store 1 (.t 33) (.t 31), none⟩] [3] [0])
  (.seq (.reg [⟨some 34, .mv (.t 3), none⟩,
    ⟨some 2, .mv (.t 34), none⟩] [2] [0])
  (.ret)))))
def spec_l05Short.m : Fn := { np := 1, body := spec_l05Short.b, res := [.tmp 2] }
def spec_l05Short.k (M : Nat → Option Body) : Prop := M 140 = some (.code spec_l05Short.m) ∧ spec_ReadShort.k M
def spec_l10Ints.l0 : C := .seq (.seq (.reg [⟨some 11, .mv (.t 7), none⟩,
    ⟨some 12, .mv (.t 5), none⟩,
    ⟨some 13, .bin .lss (.t 11) (.t 12), none⟩,
    ⟨some 14, .mv (.t 13), none⟩,
    ⟨some 15, .mv (.t 7), some (14, true)⟩,
    ⟨some 16, .mv (.t 1), some (14, true)⟩,
    ⟨some 17, .bin .leq (.t 15) (.t 16), some (14, true)⟩,
    ⟨some 18, .pick (.t 14) (.t 17) (.k (.bool false)), none⟩,
    ⟨some 19, .mv (.t 18), none⟩,
    ⟨some 20, .mv (.t 0), some (19, true)⟩,
    ⟨some 21, .nilc (.t 20), some (19, true)⟩,
    ⟨some 22, .faddr 2 (.t 21), some (19, true)⟩,
    ⟨some 23, .load false 1 (.t 22), some (19, true)⟩,
    ⟨some 24, .not (.t 23), some (19, true)⟩,
    ⟨some 25, .pick (.t 19) (.t 24) (.k (.bool false)), none⟩] [0, 1, 5, 6, 7, 25] [0, 10, 32])
  (.cond (.t 25) (.skip) (.exit 0)))
  (.seq (.block 1 (.reg [⟨some 28, .mv (.t 6), none⟩,
    ⟨some 29, .mv (.t 0), none⟩,
    ⟨some 30, .call 139 [.t 29] [0] [], none⟩,
    ⟨some 31, .bslice 1 1 [.int .i64 0] [(0, .t 30)], none⟩,
    ⟨some 32, .app 1 8 (.t 28) (.t 31), none⟩,
    ⟨some 6, .mv (.t 32), none⟩] [0, 1, 5, 6, 7] [0, 10, 32]))
  (.reg [⟨some 26, .mv (.t 7), none⟩,
    ⟨some 27, .bin .add (.t 26) (.k (.int .i64 1)), none⟩,
    ⟨some 7, .mv (.t 27), none⟩] [0, 1, 5, 6, 7] [0, 10, 32]))
def spec_l10Ints.b : C := .seq (.reg [⟨some 4, .nil 1, none⟩] [0, 1] [0])
  (.seq (.reg [⟨some 8, .mv (.t 0), none⟩,
    ⟨some 9, .call 139 [.t 8] [0] [], none⟩,
    ⟨some 5, .mv (.t 9), none⟩] [0, 1, 5] [0])
  (.seq (.reg [⟨some 10, .bslice 1 0 [.int .i64 0] [], none⟩,
    ⟨some 6, .mv (.t 10), none⟩] [0, 1, 5, 6] [0, 10, 32])
  (.seq (.seq (.reg [⟨some 7, .mv (.k (.int .i64 0)), none⟩] [0, 1, 5, 6, 7] [0, 10, 32])
  (.block 0 (.loop spec_l10Ints.l0)))
  (.seq (.reg [⟨some 33, .mv (.t 6), none⟩,
    ⟨some 4, .mv (.t 33), none⟩] [4] [0, 4, 10, 32])
  (.ret)))))
def spec_l10Ints.m : Fn := { np := 2, body := spec_l10Ints.b, res := [.tmp 4] }
def spec_l10Ints.k (M : Nat → Option Body) : Prop := M 142 = some (.code spec_l10Ints.m) ∧ spec_l05Var.k M
def spec_ReadMail.l0 : C := .seq (.seq (.reg [⟨some 21, .mv (.t 9), none⟩,
    ⟨some 22, .bin .lss (.t 21) (.k (.int .i64 3)), none⟩] [4, 7, 8, 9, 22] [4, 8, 14, 40])
  (.cond (.t 22) (.skip) (.exit 0)))
  (.seq (.block 1 (.seq (.reg [⟨some 25, .mv (.t 7), none⟩,
    ⟨some 26, .call 139 [.t 25] [0] [], none⟩,
    ⟨some 27, .build [.int .i64 0, .int .i64 0, .int .i64 0] [(0, 1, .t 26)], none⟩,
    ⟨some 10, .alloc [.int .i64 0, .int .i64 0, .int .i64 0], none⟩,
    ⟨none, .store 3 (.t 10) (.t 27), none⟩] [4, 7, 8, 9, 10] [4, 8, 10, 14, 40])
  (.seq (.reg [⟨some 28, .mv (.t 7), none⟩,
    ⟨some 29, .call 139 [.t 28] [0] [], none⟩,
    ⟨some 30, .faddr 1 (.t 10), none⟩,
    ⟨some 31, .faddr 0 (.t 30), none⟩,
    ⟨none, .store 1 (.t 31) (.t 29), none⟩] [4, 7, 8, 9, 10] [4, 8, 10, 14, 40])
  (.seq (.reg [⟨some 32, .mv (.t 7), none⟩,
    ⟨some 33, .call 139 [.t 32] [0] [], none⟩,
    ⟨some 34, .faddr 1 (.t 10), none⟩,
    ⟨some 35, .faddr 1 (.t 34), none⟩,
    ⟨none, .store 1 (.t 35) (.t 33), none⟩] [4, 7, 8, 9, 10] [4, 8, 10, 14, 40])
  (.reg [⟨some 36, .faddr 2 (.t 8), none⟩,
    ⟨some 37, .load false 1 (.t 36), none⟩,
    ⟨some 38, .load true 3 (.t 10), none⟩,
    ⟨some 39, .bslice 3 1 [.int .i64 0, .int .i64 0, .int .i64 0] [(0, .t 38)], none⟩,
    ⟨some 40, .app 3 24 (.t 37) (.t 39), none⟩,
    ⟨some 41, .faddr 2 (.t 8), none⟩,
    ⟨none, .store 1 (.t 41) (.t 40), none⟩] [4, 7, 8, 9] [4, 8, 14, 40])))))
  (.reg [⟨some 23, .mv (.t 9), none⟩,
    ⟨some 24, .bin .add (.t 23) (.k (.int .i64 1)), none⟩,
    ⟨some 9, .mv (.t 24), none⟩] [4, 7, 8, 9] [4, 8, 14, 40]))
def spec_ReadMail.b : C := .seq (.reg [⟨some 4, .alloc [.int .i64 0, .int .i64 0, .nils 3, .str ⟨#[]⟩], none⟩,
    ⟨some 5, .mv (.k (.int .i64 0)), none⟩,
    ⟨some 6, .mv (.k (.bool false)), none⟩] [0, 1, 4] [4, 40])
  (.seq (.reg [⟨some 11, .mv (.t 0), none⟩,
    ⟨some 12, .mv (.t 1), none⟩,
    ⟨some 13, .build [.str ⟨#[]⟩, .int .i64 0, .bool false] [(0, 1, .t 11), (1, 1, .t 12)], none⟩,
    ⟨some 14, .box (.t 13), none⟩,
    ⟨some 7, .mv (.t 14), none⟩] [4, 7] [4, 14, 40])
  (.seq (.reg [⟨some 15, .mv (.t 7), none⟩,
    ⟨some 16, .call 139 [.t 15] [0] [], none⟩,
    ⟨some 17, .build [.int .i64 0, .int .i64 0, .nils 3, .str ⟨#[]⟩] [(0, 1, .t 16)], none⟩,
    ⟨some 8, .alloc [.int .i64 0, .int .i64 0, .nils 3, .str ⟨#[]⟩], none⟩,
    ⟨none, .store 4 (.t 8) (.t 17), none⟩] [4, 7, 8] [4, 8, 14, 40])
  (.seq (.reg [⟨some 18, .mv (.t 7), none⟩,
    ⟨some 19, .call 139 [.t 18] [0] [], none⟩,
    ⟨some 20, .faddr 1 (.t 8), none⟩,
    ⟨none, .store 1 (.t 20) (.t 19), none⟩] [4, 7, 8] [4, 8, 14, 40])
  (.seq (.seq (.reg [⟨some 9, .mv (.k (.int .i64 0)), none⟩] [4, 7, 8, 9] [4, 8, 14, 40])
  (.block 0 (.loop spec_ReadMail.l0)))
  (.seq (.reg [⟨some 42, .mv (.t 7), none⟩,
    ⟨some 43, .call 140 [.t 42] [0] [], none⟩,
    ⟨some 44, .faddr 3 (.t 8), none⟩,
    ⟨none, .store 1 (.t 44) (.t 43), none⟩] [4, 7, 8] [4, 8, 14, 40])
  (.seq (.seq (.reg [⟨some 45, .mv (.t 7), none⟩,
    ⟨some 46, .nilc (.t 45), none⟩,
    ⟨some 47, .faddr 2 (.t 46), none⟩,
    ⟨some 48, .load false 1 (.t 47), none⟩,
    ⟨some 49, .mv (.t 48), none⟩,
    ⟨some 50, .load true 4 (.t 8), some (49, false)⟩,
    ⟨some 51, .call 187 [.t 50] [] [], some (49, false)⟩,
    ⟨some 52, .not (.t 51), some (49, false)⟩,
    ⟨some 53, .pick (.t 49) (.k (.bool true)) (.t 52), none⟩] [4, 7, 8, 53] [4, 8, 14, 40])
  (.cond (.t 53) (.seq (.reg [⟨some 54, .build [.int .i64 0, .int .i64 0, .nils 3, .str ⟨#[]⟩] [], none⟩,
    ⟨none, .store 4 (.t 4) (.t 54), none⟩,
    ⟨some 5, .mv (.k (.int .i64 0)), none⟩,
    ⟨some 6, .mv (.k (.bool false)), none⟩] [4, 5, 6] [4, 40])
  (.ret)) (.skip)))
  (.seq (.regd [⟨some 55, .load true 4 (.t 8), none⟩,
    ⟨some 56, .mv (.t 7), none⟩,
    ⟨some 57, .nilc (.t 56), none⟩,
    ⟨some 58, .faddr 1 (.t 57), none⟩,
    ⟨some 59, .load false 1 (.t 58), none⟩,
    ⟨none, .store 4 (.t 4) (.t 55), none⟩,
    ⟨some 5, .mv (.t 59), none⟩,
    ⟨some 6, .mv (.k (.bool true)), none⟩] [[], [], [1], [1, 2], [1, 2, 3], [0], List.range 6, List.range 7] [4, 5, 6] [4, 40])
  (.ret))))))))
def spec_ReadMail.m : Fn := { np := 2, body := spec_ReadMail.b, res := [.cell 4 true 4, .tmp 5, .tmp 6] }
def spec_ReadMail.k (M : Nat → Option Body) : Prop := M 141 = some (.code spec_ReadMail.m) ∧ spec_l05Var.k M ∧ spec_l05Short.k M ∧ spec_MailOk.k M
def spec_ReadBox.l0 : C := .seq (.seq (.reg [⟨some 37, .mv (.t 10), none⟩,
    ⟨some 38, .mv (.t 9), none⟩,
    ⟨some 39, .bin .lss (.t 37) (.t 38), none⟩,
    ⟨some 40, .mv (.t 39), none⟩,
    ⟨some 41, .mv (.t 10), some (40, true)⟩,
    ⟨some 42, .bin .leq (.t 41) (.k (.int .i64 10)), some (40, true)⟩,
    ⟨some 43, .pick (.t 40) (.t 42) (.k (.bool false)), none⟩,
    ⟨some 44, .mv (.t 43), none⟩,
    ⟨some 45, .mv (.t 7), some (44, true)⟩,
    ⟨some 46, .nilc (.t 45), some (44, true)⟩,
    ⟨some 47, .faddr 2 (.t 46), some (44, true)⟩,
    ⟨some 48, .load false 1 (.t 47), some (44, true)⟩,
    ⟨some 49, .not (.t 48), some (44, true)⟩,
    ⟨some 50, .pick (.t 44) (.t 49) (.k (.bool false)), none⟩] [0, 4, 7, 8, 9, 10, 50] [4, 8, 17, 70, 17700])
  (.cond (.t 50) (.skip) (.exit 0)))
  (.seq (.block 1 (.seq (.reg [⟨some 54, .mv (.t 0), none⟩,
    ⟨some 55, .mv (.t 7), none⟩,
    ⟨some 56, .nilc (.t 55), none⟩,
    ⟨some 57, .faddr 1 (.t 56), none⟩,
    ⟨some 58, .load false 1 (.t 57), none⟩,
    ⟨some 59, .call 141 [.t 54, .t 58] [] [], none⟩,
    ⟨some 53, .mv (.t 59), none⟩,
    ⟨some 60, .ext 0 (.t 53), none⟩,
    ⟨some 61, .ext 1 (.t 53), none⟩,
    ⟨some 62, .ext 2 (.t 53), none⟩,
    ⟨some 11, .alloc [.int .i64 0, .int .i64 0, .nils 3, .str ⟨#[]⟩], none⟩,
    ⟨none, .store 4 (.t 11) (.t 60), none⟩,
    ⟨some 12, .mv (.t 61), none⟩,
    ⟨some 13, .mv (.t 62), none⟩] [0, 4, 7, 8, 9, 10, 11, 12, 13] [4, 8, 11, 17, 70, 17700])
  (.seq (.seq (.reg [⟨some 63, .mv (.t 13), none⟩,
    ⟨some 64, .not (.t 63), none⟩] [0, 4, 7, 8, 9, 10, 11, 12, 64] [4, 8, 11, 17, 70, 17700])
  (.cond (.t 64) (.seq (.reg [⟨some 65, .build [.int .i64 0, .str ⟨#[]⟩, .int .i64 0, .int .i64 0, .int .i64 0, .nils 4, .nils 1] [], none⟩,
    ⟨none, .store 7 (.t 4) (.t 65), none⟩,
    ⟨some 5, .mv (.k (.int .i64 0)), none⟩,
    ⟨some 6, .mv (.k (.bool false)), none⟩] [4, 5, 6] [4, 70, 17700])
  (.ret)) (.skip)))
  (.seq (.reg [⟨some 66, .faddr 5 (.t 8), none⟩,
    ⟨some 67, .load false 1 (.t 66), none⟩,
    ⟨some 68, .load true 4 (.t 11), none⟩,
    ⟨some 69, .bslice 4 1 [.int .i64 0, .int .i64 0, .nils 3, .str ⟨#[]⟩] [(0, .t 68)], none⟩,
    ⟨some 70, .app 4 56 (.t 67) (.t 69), none⟩,
    ⟨some 71, .faddr 5 (.t 8), none⟩,
    ⟨none, .store 1 (.t 71) (.t 70), none⟩] [0, 4, 7, 8, 9, 10, 12] [4, 8, 17, 70, 17700])
  (.reg [⟨some 72, .mv (.t 7), none⟩,
    ⟨some 73, .mv (.t 12), none⟩,
    ⟨some 74, .nilc (.t 72), none⟩,
    ⟨some 75, .faddr 1 (.t 74), none⟩,
    ⟨none, .store 1 (.t 75) (.t 73), none⟩] [0, 4, 7, 8, 9, 10] [4, 8, 17, 70, 17700])))))
  (.reg [⟨some 51, .mv (.t 10), none⟩,
    ⟨some 52, .bin .add (.t 51) (.k (.int .i64 1)), none⟩,
    ⟨some 10, .mv (.t 52), none⟩] [0, 4, 7, 8, 9, 10] [4, 8, 17, 70, 17700]))
def spec_ReadBox.b : C := .seq (.reg [⟨some 4, .alloc [.int .i64 0, .str ⟨#[]⟩, .int .i64 0, .int .i64 0, .int .i64 0, .nils 4, .nils 1], none⟩,
    ⟨some 5, .mv (.k (.int .i64 0)), none⟩,
    ⟨some 6, .mv (.k (.bool false)), none⟩] [0, 1, 4] [4, 70, 17700])
  (.seq (.reg [⟨some 14, .mv (.t 0), none⟩,
    ⟨some 15, .mv (.t 1), none⟩,
    ⟨some 16, .build [.str ⟨#[]⟩, .int .i64 0, .bool false] [(0, 1, .t 14), (1, 1, .t 15)], none⟩,
    ⟨some 17, .box (.t 16), none⟩,
    ⟨some 7, .mv (.t 17), none⟩] [0, 4, 7] [4, 17, 70, 17700])
  (.seq (.reg [⟨some 18, .mv (.t 7), none⟩,
    ⟨some 19, .call 139 [.t 18] [0] [], none⟩,
    ⟨some 20, .build [.int .i64 0, .str ⟨#[]⟩, .int .i64 0, .int .i64 0, .int .i64 0, .nils 4, .nils 1] [(0, 1, .t 19)], none⟩,
    ⟨some 8, .alloc [.int .i64 0, .str ⟨#[]⟩, .int .i64 0, .int .i64 0, .int .i64 0, .nils 4, .nils 1], none⟩,
    ⟨none, .store 7 (.t 8) (.t 20), none⟩] [0, 4, 7, 8] [4, 8, 17, 70, 17700])
  (.seq (.reg [⟨some 21, .mv (.t 7), none⟩,
    ⟨some 22, .call 140 [.t 21] [0] [], none⟩,
    ⟨some 23, .faddr 1 (.t 8), none⟩,
    ⟨none, .store 1 (.t 23) (.t 22), none⟩] [0, 4, 7, 8] [4, 8, 17, 70, 17700])
  (.seq (.reg [⟨some 24, .mv (.t 7), none⟩,
    ⟨some 25, .call 139 [.t 24] [0] [], none⟩,
    ⟨some 26, .faddr 2 (.t 8), none⟩,
    ⟨some 27, .faddr 0 (.t 26), none⟩,
    ⟨none, .store 1 (.t 27) (.t 25), none⟩] [0, 4, 7, 8] [4, 8, 17, 70, 17700])
  (.seq (.reg [⟨some 28, .mv (.t 7), none⟩,
    ⟨some 29, .call 139 [.t 28] [0] [], none⟩,
    ⟨some 30, .faddr 2 (.t 8), none⟩,
    ⟨some 31, .faddr 1 (.t 30), none⟩,
    ⟨none, .store 1 (.t 31) (.t 29), none⟩] [0, 4, 7, 8] [4, 8, 17, 70, 17700])
  (.seq (.reg [⟨some 32, .mv (.t 7), none⟩,
    ⟨some 33, .call 139 [.t 32] [0] [], none⟩,
    ⟨some 34, .faddr 4 (.t 8), none⟩,
    ⟨none, .store 1 (.t 34) (.t 33), none⟩] [0, 4, 7, 8] [4, 8, 17, 70, 17700])
  (.seq (.reg [⟨some 35, .mv (.t 7), none⟩,
    ⟨some 36, .call 139 [.t 35] [0] [], none⟩,
    ⟨some 9, .mv (.t 36), none⟩] [0, 4, 7, 8, 9] [4, 8, 17, 70, 17700])
  (.seq (.seq (.reg [⟨some 10, .mv (.k (.int .i64 0)), none⟩] [0, 4, 7, 8, 9, 10] [4, 8, 17, 70, 17700])
  (.block 0 (.loop spec_ReadBox.l0)))
  (.seq (.reg [⟨some 76, .mv (.t 7), none⟩,
    ⟨some 77, .call 142 [.t 76, .k (.int .i64 40)] [0] [(0, 17700)], none⟩,
    ⟨some 78, .faddr 6 (.t 8), none⟩,
    ⟨none, .store 1 (.t 78) (.t 77), none⟩] [4, 7, 8] [4, 8, 17, 70, 17700])
  (.seq (.seq (.reg [⟨some 79, .mv (.t 7), none⟩,
    ⟨some 80, .nilc (.t 79), none⟩,
    ⟨some 81, .faddr 2 (.t 80), none⟩,
    ⟨some 82, .load false 1 (.t 81), none⟩,
    ⟨some 83, .mv (.t 82), none⟩,
    ⟨some 84, .load true 7 (.t 8), some (83, false)⟩,
    ⟨some 85, .call 88 [.t 84] [] [], some (83, false)⟩,
    ⟨some 86, .not (.t 85), some (83, false)⟩,
    ⟨some 87, .pick (.t 83) (.k (.bool true)) (.t 86), none⟩] [4, 7, 8, 87] [4, 8, 17, 70, 17700])
  (.cond (.t 87) (.seq (.reg [⟨some 88, .build [.int .i64 0, .str ⟨#[]⟩, .int .i64 0, .int .i64 0, .int .i64 0, .nils 4, .nils 1] [], none⟩,
    ⟨none, .store 7 (.t 4) (.t 88), none⟩,
    ⟨some 5, .mv (.k (.int .i64 0)), none⟩,
    ⟨some 6, .mv (.k (.bool false)), none⟩] [4, 5, 6] [4, 70, 17700])
  (.ret)) (.skip)))
  (.seq (.regd [⟨some 89, .load true 7 (.t 8), none⟩,
    ⟨some 90, .mv (.t 7), none⟩,
    ⟨some 91, .nilc (.t 90), none⟩,
    ⟨some 92, .faddr 1 (.t 91), none⟩,
    ⟨some 93, .load false 1 (.t 92), none⟩,
    ⟨none, .store 7 (.t 4) (.t 89), none⟩,
    ⟨some 5, .mv (.t 93), none⟩,
    ⟨some 6, .mv (.k (.bool true)), none⟩] [[], [], [1], [1, 2], [1, 2, 3], [0], List.range 6, List.range 7] [4, 5, 6] [4, 70, 17700])
  (.ret))))))))))))
def spec_ReadBox.m : Fn := { np := 2, body := spec_ReadBox.b, res := [.cell 4 true 7, .tmp 5, .tmp 6] }
def spec_ReadBox.k (M : Nat → Option Body) : Prop := M 52 = some (.code spec_ReadBox.m) ∧ spec_BoxOk.k M ∧ spec_l05Var.k M ∧ spec_l05Short.k M ∧ spec_ReadMail.k M ∧ spec_l10Ints.k M
end Mx

/-
  What ReadVar and ReadShort answer.
-/
namespace Mx
open Go
variable {M : Nat → Option Body}
def pw (k : Nat) : Nat := 128 ^ k
/-- a number read from a place on; d: how many bytes may come; k: how many came; n: what they are -/
def rvGo (l : List UInt8) (a : Nat) : Nat → Nat → Nat → Option (Nat × Nat × Bool)
  | 0, _, _ => none
  | d + 1, k, n => if h : a + k < l.length then
      if l[a + k].toNat < 128 then some (if n + l[a + k].toNat % 128 * pw k ≤ 1000000000 ∧ varT (n + l[a + k].toNat % 128 * pw k) = (l.drop a).take (k + 1) then (n + l[a + k].toNat % 128 * pw k, a + k + 1, true) else (0, 0, false))
      else rvGo l a d (k + 1) (n + l[a + k].toNat % 128 * pw k)
    else none
def readVar (l : List UInt8) (a : Int) : Nat × Nat × Bool := if 0 ≤ a ∧ a ≤ l.length then (rvGo l a.toNat 5 0 0).getD (0, 0, false) else (0, 0, false)
theorem rvGo_end (l : List UInt8) (a d k n : Nat) (h : ¬ a + k < l.length) : rvGo l a d k n = none := by
  cases d with
  | zero => rfl
  | succ d => rw [rvGo, dif_neg h]
theorem rvGo_le (l : List UInt8) (a : Nat) : ∀ d k n r, rvGo l a d k n = some r → r.1 ≤ 1000000000 ∧ r.2.1 ≤ l.length ∧ (r.2.2 = true → a + k < r.2.1)
  | 0, k, n, r, h => by simp [rvGo] at h
  | d + 1, k, n, r, hr => by
    rw [rvGo] at hr
    by_cases h : a + k < l.length
    · rw [dif_pos h] at hr
      split at hr
      · simp only [Option.some.injEq] at hr
        subst hr
        split
        · rename_i hc
          exact ⟨hc.1, by simp only; omega, fun _ => by simp only; omega⟩
        · simp
      · have := rvGo_le l a d (k + 1) _ r hr
        exact ⟨this.1, this.2.1, fun q => by have := this.2.2 q; omega⟩
    · rw [dif_neg h] at hr; cases hr
theorem readVar_le (l : List UInt8) (a : Int) : (readVar l a).1 ≤ 1000000000 ∧ (readVar l a).2.1 ≤ l.length ∧ ((readVar l a).2.2 = true → 0 ≤ a ∧ a < (readVar l a).2.1) := by
  unfold readVar
  split
  · rename_i h
    cases hg : rvGo l a.toNat 5 0 0 with
    | none => simp
    | some r =>
      have := rvGo_le l a.toNat 5 0 0 r hg
      exact ⟨this.1, this.2.1, fun q => ⟨h.1, by have := this.2.2 q; simp only [Option.getD_some]; omega⟩⟩
  · simp
def spR (l : List UInt8) (a : Nat) (s : Nat × Nat) (x : Nat) : St := { t := [(0, .c (S l)), (1, .c (I a)), (7, .c (I s.2)), (8, .c (I (pw s.1 : Nat))), (9, .c (I ((a : Int) + s.1)))], o := [], n := x }
def rvFin (q : Option (Nat × Nat × Bool)) (m : St) : Out × St := match q with
  | some r => (.ret, { t := [(4, .c (I r.1)), (5, .c (I r.2.1)), (6, .c (.bool r.2.2))], o := [], n := m.n })
  | none => (.exit 0, m)
theorem rvFin_ne (q : Option (Nat × Nat × Bool)) (m : St) : (rvFin q m).1 ≠ .normal := by
  cases q <;> simp [rvFin]
theorem pow_le5 {k : Nat} (h : k ≤ 5) : pw k ≤ 34359738368 := by
  have : k = 0 ∨ k = 1 ∨ k = 2 ∨ k = 3 ∨ k = 4 ∨ k = 5 := by omega
  rcases this with rfl | rfl | rfl | rfl | rfl | rfl <;> decide +kernel
theorem pw_succ (k : Nat) : pw (k + 1) = pw k * 128 := Nat.pow_succ 128 k
theorem step_lt {n k b : Nat} (h : n < pw k) : n + b % 128 * pw k < pw (k + 1) := by
  have h1 : b % 128 ≤ 127 := by omega
  have h2 : b % 128 * pw k ≤ 127 * pw k := Nat.mul_le_mul_right _ h1
  rw [pw_succ]; omega
theorem spec_ReadVar.says (h : spec_ReadVar.k M) (l : List UInt8) (hl : l.length ≤ 4611686018427387904) (a : Int) :
    run M 221 [.c (S l), .c (I a)] [] = some (.tup [.c (I (readVar l a).1), .c (I (readVar l a).2.1), .c (.bool (readVar l a).2.2)], []) := by
  obtain ⟨h0, k1, k2⟩ := h
  have hw := spec_l01In.says k1 a 0 l.length
  refine run_code (b := spec_ReadVar.m) h0 ⟨7, ?_⟩
  by_cases c : 0 ≤ a ∧ a ≤ l.length
  rotate_left
  · have hb : (decide (0 ≤ a) && decide (a ≤ (l.length : Int))) = false := by
      rw [Bool.eq_false_iff]; intro hh; simp only [Bool.and_eq_true, decide_eq_true_eq] at hh; omega
    rw [hb] at hw
    simp [exB, spec_ReadVar.m, spec_ReadVar.b, List.range_succ, hw, readVar, c]
  obtain ⟨c1, c2⟩ := c
  obtain ⟨a, rfl⟩ := Int.eq_ofNat_of_zero_le c1
  have c3 : a ≤ l.length := by omega
  simp [c1, c3] at hw
  obtain ⟨g, hr⟩ := loop_all (f := exC (run M) 7 spec_ReadVar.l0) (spR l a) (fun s => s.1 ≤ 5 ∧ s.2 < pw s.1) (fun s => 5 - s.1) (fun s => rvGo l a (5 - s.1) s.1 s.2) rvFin
    (by
      rintro ⟨k, n⟩ x ⟨h1, h2⟩
      simp only at h1 h2
      have hp := pow_le5 h1
      have e2 : IntKind.i64.wrap ((a : Int) + 5) = (a : Int) + 5 := wrap_i64 (by omega) (by omega)
      have stop : (∃ m, exC (run M) 7 spec_ReadVar.l0 (spR l a (k, n) x) = some (rvFin (rvGo l a (5 - k) k n) m)) → (∃ s' y, exC (run M) 7 spec_ReadVar.l0 (spR l a (k, n) x) = some (.normal, spR l a s' y) ∧ (s'.1 ≤ 5 ∧ s'.2 < pw s'.1) ∧ 5 - s'.1 < 5 - (k, n).1 ∧ rvGo l a (5 - s'.1) s'.1 s'.2 = rvGo l a (5 - (k, n).1) (k, n).1 (k, n).2) ∨ (∃ z, exC (run M) 7 spec_ReadVar.l0 (spR l a (k, n) x) = some (rvFin (rvGo l a (5 - (k, n).1) (k, n).1 (k, n).2) z) ∧ (rvFin (rvGo l a (5 - (k, n).1) (k, n).1 (k, n).2) z).1 ≠ .normal) := fun ⟨m, hm⟩ => .inr ⟨m, hm, rvFin_ne _ _⟩
      by_cases hlt : a + k < l.length
      rotate_left
      · have d1 : ¬ (a : Int) + k < l.length := by omega
        refine stop ?_
        simp only [rvGo_end l a _ k n hlt, rvFin]
        simp [spR, spec_ReadVar.l0, d1]
      have d1 : (a : Int) + k < l.length := by omega
      by_cases h5 : k < 5
      rotate_left
      · have : k = 5 := by omega
        subst this
        refine stop ?_
        simp only [Nat.sub_self, rvGo, rvFin]
        simp at d1
        simp [spR, spec_ReadVar.l0, d1, e2]
      have d2 : (a : Int) + k < a + 5 := by omega
      have hs := step_lt (b := l[a + k].toNat) h2
      have hp' := pow_le5 (k := k + 1) (by omega)
      have hd : 5 - k = (5 - (k + 1)) + 1 := by omega
      obtain ⟨b, hb⟩ : ∃ b, l[a + k] = b := ⟨_, rfl⟩
      rw [hb] at hs
      have hbl := b.toNat_lt
      have e3 : IntKind.i64.wrap (b.toNat : Int) = b.toNat := wrap_i64 (by omega) (by omega)
      have q4 : ((b.toNat : Int) % 128 * (pw k : Nat)) = ((b.toNat % 128 * pw k : Nat) : Int) := by push_cast; rfl
      have e4 : IntKind.i64.wrap ((b.toNat : Int) % 128 * (pw k : Nat)) = (b.toNat : Int) % 128 * (pw k : Nat) := by rw [q4]; exact wrap_i64 (by omega) (by omega)
      have e5 : IntKind.i64.wrap ((n : Int) + (b.toNat : Int) % 128 * (pw k : Nat)) = (n : Int) + (b.toNat : Int) % 128 * (pw k : Nat) := by rw [q4]; exact wrap_i64 (by omega) (by omega)
      have e6 : IntKind.i64.wrap (((pw k : Nat) : Int) * 128) = ((pw (k + 1) : Nat) : Int) := by
        rw [show ((pw k : Nat) : Int) * 128 = ((pw (k + 1) : Nat) : Int) by rw [pw_succ]; push_cast; rfl]
        exact wrap_i64 (by omega) (by omega)
      have e7 : IntKind.i64.wrap ((a : Int) + k + 1) = (a : Int) + (k + 1) := by rw [wrap_i64 (by omega) (by omega)]; omega
      have e8 : ((a : Int) + k).toNat = a + k := by omega
      have e9 : (b.toNat : Int).tmod 128 = (b.toNat : Int) % 128 := Int.tmod_eq_emod_of_nonneg (by omega)
      have h1' := spec_l01Var.says k2 (n + b.toNat % 128 * pw k) (by omega)
      simp only [Int.natCast_add, Int.natCast_mul, Int.natCast_emod, Int.cast_ofNat_Int] at h1'
      have f0 : (0 : Int) ≤ (a : Int) + k := by omega
      by_cases hb128 : b.toNat < 128
      rotate_left
      · left
        have b1 : ¬ (b.toNat : Int) < 128 := by omega
        obtain ⟨y, hy⟩ : ∃ y, exC (run M) 7 spec_ReadVar.l0 (spR l a (k, n) x) = some (.normal, spR l a (k + 1, n + b.toNat % 128 * pw k) y) := by
          simp [spR, spec_ReadVar.l0, d1, d2, e2, e3, e4, e5, e6, e7, e8, e9, f0, hlt, bs_get, hb, b1]
        refine ⟨(k + 1, n + b.toNat % 128 * pw k), y, hy, ⟨h5, hs⟩, by simp only; omega, ?_⟩
        simp only [hd]
        rw [rvGo, dif_pos hlt, hb, if_neg hb128]
      refine stop ?_
      have b1 : (b.toNat : Int) < 128 := by omega
      rw [hd, rvGo, dif_pos hlt, hb, if_pos hb128]
      have f1 : (0 : Int) ≤ (a : Int) + (k + 1) := by omega
      have f2 : ((a : Int) + (k + 1)).toNat = a + (k + 1) := by omega
      by_cases hN : n + b.toNat % 128 * pw k ≤ 1000000000
      rotate_left
      · rw [if_neg (fun q => hN q.1)]
        have hN' : 1000000000 < (n : Int) + (b.toNat : Int) % 128 * (pw k : Nat) := by rw [q4]; omega
        simp [rvFin, spR, spec_ReadVar.l0, d1, d2, e2, e3, e4, e5, e6, e7, e8, e9, f0, hlt, bs_get, hb, b1, hN']
        exact ⟨⟨[], [], _⟩, rfl⟩
      have hN' : ¬ 1000000000 < (n : Int) + (b.toNat : Int) % 128 * (pw k : Nat) := by rw [q4]; omega
      obtain ⟨w, hw'⟩ : ∃ w, (l.drop a).take (k + 1) = w := ⟨_, rfl⟩
      have w1 : (l.take (a + (k + 1))).drop a = w := by rw [← hw', List.drop_take]; congr 1; omega
      have w2 : (l.drop a).take (a + (k + 1) - a) = w := by rw [← hw']; congr 1; omega
      have g1 : a ≤ a + (k + 1) ∧ a + (k + 1) ≤ l.length := by omega
      rw [hw']
      by_cases hv : varT (n + b.toNat % 128 * pw k) = w
      · rw [if_pos ⟨hN, hv⟩]
        simp [rvFin, spR, spec_ReadVar.l0, d1, d2, e2, e3, e4, e5, e6, e7, e8, e9, f0, hlt, bs_get, hb, b1, hN', h1', f1, f2, w1, w2, g1, hv]
        exact ⟨by omega, ⟨[], [], _⟩, rfl⟩
      · rw [if_neg (fun q => hv q.2)]
        simp [rvFin, spR, spec_ReadVar.l0, d1, d2, e2, e3, e4, e5, e6, e7, e8, e9, f0, hlt, bs_get, hb, b1, hN', h1', f1, f2, w1, w2, g1, hv]
        exact ⟨⟨[], [], _⟩, rfl⟩)
    7 (0, 0) ⟨by simp, by simp [pw]⟩ (by simp)
  simp only [Nat.sub_zero] at hr
  have hp0 : pw 0 = 1 := rfl
  simp only [readVar]
  rw [if_pos ⟨c1, c2⟩]
  simp only [Int.toNat_natCast]
  cases hg : rvGo l a 5 0 0 with
  | none =>
    simp [spR, hg, rvFin, hp0] at hr
    simp [exB, spec_ReadVar.m, spec_ReadVar.b, List.range_succ, hw, hr]
  | some r =>
    simp [spR, hg, rvFin, hp0] at hr
    simp [exB, spec_ReadVar.m, spec_ReadVar.b, List.range_succ, hw, hr]

def imR (l : List UInt8) (a : Nat) (s : Nat × Nat) (x : Nat) : St := { t := [(0, .c (S l)), (1, .c (I a)), (7, .c (I s.2)), (8, .c (I s.1))], o := [], n := x }
theorem impl_ReadVar.says (h : impl_ReadVar.k M) (l : List UInt8) (hl : l.length ≤ 4611686018427387904) (a : Int) :
    run M 231 [.c (S l), .c (I a)] [] = some (.tup [.c (I (readVar l a).1), .c (I (readVar l a).2.1), .c (.bool (readVar l a).2.2)], []) := by
  obtain ⟨h0, k1, k2⟩ := h
  have hw := impl_within.says k1 a 0 l.length
  refine run_code (b := impl_ReadVar.m) h0 ⟨7, ?_⟩
  by_cases c : 0 ≤ a ∧ a ≤ l.length
  rotate_left
  · have hb : (decide (0 ≤ a) && decide (a ≤ (l.length : Int))) = false := by
      rw [Bool.eq_false_iff]; intro hh; simp only [Bool.and_eq_true, decide_eq_true_eq] at hh; omega
    rw [hb] at hw
    simp [exB, impl_ReadVar.m, impl_ReadVar.b, List.range_succ, hw, readVar, c]
  obtain ⟨c1, c2⟩ := c
  obtain ⟨a, rfl⟩ := Int.eq_ofNat_of_zero_le c1
  have c3 : a ≤ l.length := by omega
  simp [c1, c3] at hw
  obtain ⟨g, hr⟩ := loop_all (f := exC (run M) 7 impl_ReadVar.l0) (imR l a) (fun s => s.1 ≤ 5 ∧ s.2 < pw s.1) (fun s => 5 - s.1) (fun s => rvGo l a (5 - s.1) s.1 s.2) rvFin
    (by
      rintro ⟨k, n⟩ x ⟨h1, h2⟩
      simp only at h1 h2
      have hp := pow_le5 h1
      have stop : (∃ m, exC (run M) 7 impl_ReadVar.l0 (imR l a (k, n) x) = some (rvFin (rvGo l a (5 - k) k n) m)) → (∃ s' y, exC (run M) 7 impl_ReadVar.l0 (imR l a (k, n) x) = some (.normal, imR l a s' y) ∧ (s'.1 ≤ 5 ∧ s'.2 < pw s'.1) ∧ 5 - s'.1 < 5 - (k, n).1 ∧ rvGo l a (5 - s'.1) s'.1 s'.2 = rvGo l a (5 - (k, n).1) (k, n).1 (k, n).2) ∨ (∃ z, exC (run M) 7 impl_ReadVar.l0 (imR l a (k, n) x) = some (rvFin (rvGo l a (5 - (k, n).1) (k, n).1 (k, n).2) z) ∧ (rvFin (rvGo l a (5 - (k, n).1) (k, n).1 (k, n).2) z).1 ≠ .normal) := fun ⟨m, hm⟩ => .inr ⟨m, hm, rvFin_ne _ _⟩
      by_cases h5 : k < 5
      rotate_left
      · have : k = 5 := by omega
        subst this
        refine stop ?_
        simp only [Nat.sub_self, rvGo, rvFin]
        simp [imR, impl_ReadVar.l0]
      have d2 : (k : Int) < 5 := by omega
      have e0 : IntKind.i64.wrap ((a : Int) + k) = (a : Int) + k := wrap_i64 (by omega) (by omega)
      by_cases hlt : a + k < l.length
      rotate_left
      · have d1 : ¬ (a : Int) + k < l.length := by omega
        refine stop ?_
        simp only [rvGo_end l a _ k n hlt, rvFin]
        simp [imR, impl_ReadVar.l0, d1, d2, e0]
      have d1 : (a : Int) + k < l.length := by omega
      have hs := step_lt (b := l[a + k].toNat) h2
      have hp' := pow_le5 (k := k + 1) (by omega)
      have hd : 5 - k = (5 - (k + 1)) + 1 := by omega
      obtain ⟨b, hb⟩ : ∃ b, l[a + k] = b := ⟨_, rfl⟩
      rw [hb] at hs
      have hbl := b.toNat_lt
      have e3 : andI .u8 (b.toNat : Int) 127 = (b.toNat : Int) % 128 := by
        have := and_u8 b.toNat 127 (by omega) (by omega)
        rw [and_127] at this
        rw [show (127 : Int) = ((127 : Nat) : Int) from rfl, this]; omega
      have e3' : IntKind.i64.wrap ((b.toNat : Int) % 128) = (b.toNat : Int) % 128 := wrap_i64 (by omega) (by omega)
      have e4 : IntKind.i64.wrap (7 * (k : Int)) = 7 * (k : Int) := wrap_i64 (by omega) (by omega)
      have e4' : (7 * (k : Int)).toNat = 7 * k := by omega
      have e4'' : min (7 * k) 64 = 7 * k := by omega
      have q4 : ((b.toNat : Int) % 128 * (pw k : Nat)) = ((b.toNat % 128 * pw k : Nat) : Int) := by push_cast; rfl
      have q5 : (2 : Int) ^ (7 * k) = (pw k : Nat) := by
        unfold pw
        rw [Int.pow_mul]; push_cast; rfl
      have e5 : IntKind.i64.wrap ((b.toNat : Int) % 128 * (pw k : Nat)) = (b.toNat : Int) % 128 * (pw k : Nat) := by rw [q4]; exact wrap_i64 (by omega) (by omega)
      have e6 : orI .i64 (n : Int) ((b.toNat : Int) % 128 * (pw k : Nat)) = (n : Int) + (b.toNat : Int) % 128 * (pw k : Nat) := by
        rw [q4, or_i64 n (b.toNat % 128 * pw k) (by omega) (by omega)]
        have := or_high n (b.toNat % 128) k h2
        unfold pw at this ⊢
        rw [this]; push_cast; rfl
      have e7 : IntKind.i64.wrap ((k : Int) + 1) = (k : Int) + 1 := wrap_i64 (by omega) (by omega)
      have e7' : IntKind.i64.wrap ((a : Int) + k + 1) = (a : Int) + (k + 1) := by rw [wrap_i64 (by omega) (by omega)]; omega
      have e8 : ((a : Int) + k).toNat = a + k := by omega
      have h1' := impl_VarText.says k2 (n + b.toNat % 128 * pw k) (by omega)
      simp only [Int.natCast_add, Int.natCast_mul, Int.natCast_emod, Int.cast_ofNat_Int] at h1'
      have f0 : (0 : Int) ≤ (a : Int) + k := by omega
      have f3 : (0 : Int) ≤ 7 * (k : Int) := by omega
      have f4 : ¬ 7 * (k : Int) < 0 := by omega
      by_cases hb128 : b.toNat < 128
      rotate_left
      · left
        have b1 : 127 < (b.toNat : Int) := by omega
        obtain ⟨y, hy⟩ : ∃ y, exC (run M) 7 impl_ReadVar.l0 (imR l a (k, n) x) = some (.normal, imR l a (k + 1, n + b.toNat % 128 * pw k) y) := by
          simp [imR, impl_ReadVar.l0, d1, d2, e0, e3, e3', e4, e4', e4'', e5, e6, e7, e8, q5, f0, f3, f4, hlt, bs_get, hb, b1, IntKind.bits]
        refine ⟨(k + 1, n + b.toNat % 128 * pw k), y, hy, ⟨h5, hs⟩, by simp only; omega, ?_⟩
        simp only [hd]
        rw [rvGo, dif_pos hlt, hb, if_neg hb128]
      refine stop ?_
      have b1 : ¬ 127 < (b.toNat : Int) := by omega
      rw [hd, rvGo, dif_pos hlt, hb, if_pos hb128]
      have f1 : (0 : Int) ≤ (a : Int) + (k + 1) := by omega
      have f2 : ((a : Int) + (k + 1)).toNat = a + (k + 1) := by omega
      by_cases hN : n + b.toNat % 128 * pw k ≤ 1000000000
      rotate_left
      · rw [if_neg (fun q => hN q.1)]
        simp only [hN, if_false, decide_false] at h1'
        simp [rvFin, imR, impl_ReadVar.l0, d1, d2, e0, e3, e3', e4, e4', e4'', e5, e6, e7, e8, q5, f0, f3, f4, hlt, bs_get, hb, b1, h1', IntKind.bits]
        exact ⟨⟨[], [], _⟩, rfl⟩
      simp only [hN, if_true, decide_true] at h1'
      obtain ⟨w, hw'⟩ : ∃ w, (l.drop a).take (k + 1) = w := ⟨_, rfl⟩
      have w1 : (l.take (a + (k + 1))).drop a = w := by rw [← hw', List.drop_take]; congr 1; omega
      have w2 : (l.drop a).take (a + (k + 1) - a) = w := by rw [← hw']; congr 1; omega
      have g1 : a ≤ a + (k + 1) ∧ a + (k + 1) ≤ l.length := by omega
      rw [hw']
      by_cases hv : varT (n + b.toNat % 128 * pw k) = w
      · rw [if_pos ⟨hN, hv⟩]
        simp [rvFin, imR, impl_ReadVar.l0, d1, d2, e0, e3, e3', e4, e4', e4'', e5, e6, e7, e7', e8, q5, f0, f3, f4, hlt, bs_get, hb, b1, h1', f1, f2, w1, w2, g1, hv, IntKind.bits]
        exact ⟨by omega, ⟨[], [], _⟩, rfl⟩
      · rw [if_neg (fun q => hv q.2)]
        simp [rvFin, imR, impl_ReadVar.l0, d1, d2, e0, e3, e3', e4, e4', e4'', e5, e6, e7, e7', e8, q5, f0, f3, f4, hlt, bs_get, hb, b1, h1', f1, f2, w1, w2, g1, hv, IntKind.bits]
        exact ⟨⟨[], [], _⟩, rfl⟩)
    7 (0, 0) ⟨by simp, by simp [pw]⟩ (by simp)
  simp only [Nat.sub_zero] at hr
  simp only [readVar]
  rw [if_pos ⟨c1, c2⟩]
  simp only [Int.toNat_natCast]
  cases hg : rvGo l a 5 0 0 with
  | none =>
    simp [imR, hg, rvFin] at hr
    simp [exB, impl_ReadVar.m, impl_ReadVar.b, List.range_succ, hw, hr]
  | some r =>
    simp [imR, hg, rvFin] at hr
    simp [exB, impl_ReadVar.m, impl_ReadVar.b, List.range_succ, hw, hr]

/-- a short text read from a place on -/
def readShort (l : List UInt8) (a : Int) : List UInt8 × Nat × Bool :=
  if (readVar l a).2.2 = true ∧ (readVar l a).1 ≤ 20000 ∧ (readVar l a).1 + (readVar l a).2.1 ≤ l.length then ((l.drop (readVar l a).2.1).take (readVar l a).1, (readVar l a).2.1 + (readVar l a).1, true) else ([], 0, false)
theorem spec_ReadShort.says (h : spec_ReadShort.k M) (l : List UInt8) (hl : l.length ≤ 4611686018427387904) (a : Int) :
    run M 206 [.c (S l), .c (I a)] [] = some (.tup [.c (S (readShort l a).1), .c (I (readShort l a).2.1), .c (.bool (readShort l a).2.2)], []) := by
  have h1 := spec_ReadVar.says h.2 l hl a
  obtain ⟨q1, q2, _⟩ := readVar_le l a
  refine run_code (b := spec_ReadShort.m) h.1 ⟨0, ?_⟩
  unfold readShort
  generalize (readVar l a).1 = n at *
  generalize (readVar l a).2.1 = f at *
  generalize (readVar l a).2.2 = ok at *
  cases ok with
  | false => simp [exB, spec_ReadShort.m, spec_ReadShort.b, List.range_succ, h1]
  | true =>
    by_cases c1 : n ≤ 20000
    rotate_left
    · have c1' : 20000 < (n : Int) := by omega
      simp [exB, spec_ReadShort.m, spec_ReadShort.b, List.range_succ, h1, c1, c1']
    have c1' : ¬ 20000 < (n : Int) := by omega
    have e1 : IntKind.i64.wrap ((l.length : Int) - f) = (l.length : Int) - f := wrap_i64 (by omega) (by omega)
    by_cases c2 : n + f ≤ l.length
    rotate_left
    · have c2' : (l.length : Int) - f < n := by omega
      simp [exB, spec_ReadShort.m, spec_ReadShort.b, List.range_succ, h1, c1, c1', c2, c2', e1]
    have c2' : ¬ (l.length : Int) - f < n := by omega
    have e2 : IntKind.i64.wrap ((f : Int) + n) = (f : Int) + n := wrap_i64 (by omega) (by omega)
    have e3 : ((f : Int) + n).toNat = f + n := by omega
    have e4 : (0 : Int) ≤ (f : Int) + n := by omega
    have e5 : f ≤ f + n ∧ f + n ≤ l.length := by omega
    obtain ⟨w, hw⟩ : ∃ w, (l.drop f).take n = w := ⟨_, rfl⟩
    have w1 : (l.take (f + n)).drop f = w := by rw [← hw, List.drop_take]; congr 1; omega
    have w2 : (l.drop f).take (f + n - f) = w := by rw [← hw]; congr 1; omega
    simp [exB, spec_ReadShort.m, spec_ReadShort.b, List.range_succ, h1, c1, c1', c2, c2', e1, e2, e3, e4, e5, hw, w1, w2]
theorem impl_ReadShort.says (h : impl_ReadShort.k M) (l : List UInt8) (hl : l.length ≤ 4611686018427387904) (a : Int) :
    run M 207 [.c (S l), .c (I a)] [] = some (.tup [.c (S (readShort l a).1), .c (I (readShort l a).2.1), .c (.bool (readShort l a).2.2)], []) := by
  have h1 := impl_ReadVar.says h.2 l hl a
  obtain ⟨q1, q2, _⟩ := readVar_le l a
  refine run_code (b := impl_ReadShort.m) h.1 ⟨0, ?_⟩
  unfold readShort
  generalize (readVar l a).1 = n at *
  generalize (readVar l a).2.1 = f at *
  generalize (readVar l a).2.2 = ok at *
  cases ok with
  | false => simp [exB, impl_ReadShort.m, impl_ReadShort.b, List.range_succ, h1]
  | true =>
    by_cases c1 : n ≤ 20000
    rotate_left
    · have c1' : 20000 < (n : Int) := by omega
      simp [exB, impl_ReadShort.m, impl_ReadShort.b, List.range_succ, h1, c1, c1']
    have c1' : ¬ 20000 < (n : Int) := by omega
    have e1 : IntKind.i64.wrap ((l.length : Int) - f) = (l.length : Int) - f := wrap_i64 (by omega) (by omega)
    by_cases c2 : n + f ≤ l.length
    rotate_left
    · have c2' : (l.length : Int) - f < n := by omega
      simp [exB, impl_ReadShort.m, impl_ReadShort.b, List.range_succ, h1, c1, c1', c2, c2', e1]
    have c2' : ¬ (l.length : Int) - f < n := by omega
    have e2 : IntKind.i64.wrap ((f : Int) + n) = (f : Int) + n := wrap_i64 (by omega) (by omega)
    have e3 : ((f : Int) + n).toNat = f + n := by omega
    have e4 : (0 : Int) ≤ (f : Int) + n := by omega
    have e5 : f ≤ f + n ∧ f + n ≤ l.length := by omega
    obtain ⟨w, hw⟩ : ∃ w, (l.drop f).take n = w := ⟨_, rfl⟩
    have w1 : (l.take (f + n)).drop f = w := by rw [← hw, List.drop_take]; congr 1; omega
    have w2 : (l.drop f).take (f + n - f) = w := by rw [← hw]; congr 1; omega
    simp [exB, impl_ReadShort.m, impl_ReadShort.b, List.range_succ, h1, c1, c1', c2, c2', e1, e2, e3, e4, e5, hw, w1, w2]
end Mx

/-
  Texts of mails and boxes; the law of BoxText.
-/
namespace Mx
open Go
variable {M : Nat → Option Body}
theorem inR_iff {a n b : Int} : inR a n b = true ↔ a ≤ n ∧ n ≤ b := by simp [inR]
def varI (n : Int) : List UInt8 := varT n.toNat
theorem varI_len {n : Int} (h : n ≤ 9223372036854775807) : (varI n).length ≤ 10 := varT_len (by omega)
theorem spec_l01Var.int (h : spec_l01Var.k M) (n : Int) (h0 : 0 ≤ n) (h1 : n ≤ 9223372036854775807) : run M 99 [.c (I n)] [] = some (.c (S (varI n)), []) := by
  have := spec_l01Var.says h n.toNat (by omega)
  rw [show ((n.toNat : Nat) : Int) = n by omega] at this
  exact this
theorem impl_VarText.int (h : impl_VarText.k M) (n : Int) (h0 : 0 ≤ n) (h1 : n ≤ 1000000000) : run M 230 [.c (I n)] [] = some (.tup [.c (S (varI n)), .c (.bool true)], []) := by
  have := impl_VarText.says h n.toNat (by omega)
  rw [show ((n.toNat : Nat) : Int) = n by omega, if_pos (by omega), decide_eq_true (by omega)] at this
  exact this
def isVar (n : Int) : Prop := 0 ≤ n ∧ n ≤ 1000000000
theorem isVar_len {n : Int} (h : isVar n) : (varI n).length ≤ 10 := varI_len (by have := h.2; omega)
def vrS (l : List Int) (i : Nat) (s : List UInt8) (x : Nat) : St := { t := [(3, .c (S s)), (8, .c (ints l)), (9, .c (I l.length)), (10, .c (I i))], o := [], n := x }
def vrE (l : List Int) (s : List UInt8) (x : Nat) : St := { t := [(3, .c (S s)), (8, .c (ints l)), (9, .c (I l.length)), (10, .c (I l.length)), (11, .c (.bool false))], o := [], n := x }
theorem impl_vars.says (h : impl_vars.k M) (l : List Int) (hl : l.length ≤ 1048576) (hv : ∀ n ∈ l, isVar n) : run M 151 [.c (ints l)] [] = some (.c (S (texts varI l)), []) := by
  refine run_code (b := impl_vars.m) h.1 ⟨l.length + 1, ?_⟩
  obtain ⟨g, hr⟩ := text_loop (f := exC (run M) (l.length + 1) impl_vars.l0) l varI 10 0 (fun n hn => isVar_len (hv n hn)) (vrS l) 0 (vrE l)
    (fun i hi s x hs => by
      have e5 : IntKind.i64.wrap ((i : Int) + 1) = (i : Int) + 1 := wrap_i64 (by omega) (by omega)
      have h1 := impl_VarText.int h.2 l[i] (hv _ (List.getElem_mem hi)).1 (hv _ (List.getElem_mem hi)).2
      have h2 := isVar_len (hv _ (List.getElem_mem hi))
      simp (maxSteps := 1000000) (disch := (first | omega | (simp; done) | (simp; omega))) [impl_vars.l0, List.range_succ, bs_get, List.take_of_length_le, setAt, str_add, vrS, hi, h1, e5])
    (fun s x => by simp (maxSteps := 1000000) [impl_vars.l0, List.range_succ, bs_get, setAt, vrS, vrE]) [] (by simp)
  simp [vrS, vrE] at hr
  simp (maxSteps := 1000000) [exB, impl_vars.m, impl_vars.b, List.range_succ, bs_get, setAt, hr]

/-! ## mails -/
def regT (r : Reg) : List UInt8 := texts varI [r.val, r.time, r.who]
def mailT (m : Mail) : List UInt8 := texts varI [m.gid, m.uid] ++ texts regT m.flags ++ shortT m.text
theorem regOk_vars {r : Reg} (h : regOk r = true) : isVar r.val ∧ isVar r.time ∧ isVar r.who := by
  simp only [regOk, stampOk, Bool.and_eq_true, inR_iff] at h
  unfold isVar; omega
theorem flagsOk_regs {l : List Reg} (h : flagsOk l = true) : l.length = 3 ∧ ∀ r ∈ l, regOk r = true := by
  simp only [flagsOk, Bool.and_eq_true, decide_eq_true_eq, Option.isNone_iff_eq_none, firstN_isNone] at h
  refine ⟨h.2, fun r hr => ?_⟩
  obtain ⟨i, hi, e⟩ := List.getElem_of_mem hr
  have := h.1 i hi
  rw [badFlag_at hi, e] at this
  simp at this
  exact this.1
theorem mailOk_vars {m : Mail} (h : mailOk m = true) : isVar m.gid ∧ isVar m.uid ∧ m.flags.length = 3 ∧ (∀ r ∈ m.flags, regOk r = true) ∧ m.text.length ≤ 60 := by
  simp only [mailOk, Bool.and_eq_true, inR_iff, decide_eq_true_eq] at h
  have hf := flagsOk_regs h.1.2
  exact ⟨⟨by omega, by omega⟩, ⟨by omega, by omega⟩, hf.1, hf.2, h.2⟩
theorem regT_len {r : Reg} (h : regOk r = true) : (regT r).length ≤ 30 := by
  have h1 := regOk_vars h
  have := isVar_len h1.1; have := isVar_len h1.2.1; have := isVar_len h1.2.2
  simp [regT, texts]; omega
theorem mailT_len {m : Mail} (h : mailOk m = true) : (mailT m).length ≤ 1000 := by
  obtain ⟨h1, h2, h3, h4, h5⟩ := mailOk_vars h
  have := isVar_len h1; have := isVar_len h2
  have h6 := texts_len regT m.flags 30 fun r hr => regT_len (h4 r hr)
  have h7 := varT_len (n := m.text.length) (by omega)
  rw [h3] at h6
  simp only [mailT, shortT, List.length_append]
  have : (texts varI [m.gid, m.uid]).length ≤ 20 := by simp [texts]; omega
  omega
def mtS (m : Mail) (i : Nat) (s : List UInt8) (x : Nat × Nat) : St := { t := [(1, .c (.ptr 1 x.1 0 0)), (4, .c (S s)), (17, .c (regs m.flags)), (18, .c (I m.flags.length)), (19, .c (I i))], o := [(1, ⟨x.1, 4, true, true, [encMail m]⟩)], n := x.2 }
def mtE (m : Mail) (s : List UInt8) (x : Nat × Nat) : St := { t := [(1, .c (.ptr 1 x.1 0 0)), (4, .c (S s)), (17, .c (regs m.flags)), (18, .c (I m.flags.length)), (19, .c (I m.flags.length)), (20, .c (.bool false))], o := [(1, ⟨x.1, 4, true, true, [encMail m]⟩)], n := x.2 }
theorem impl_MailText.says (h : impl_MailText.k M) (m : Mail) (hl : m.flags.length ≤ 1048576) : run M 213 [.a (encMail m)] [] = some (.tup [.c (S (if mailOk m = true then mailT m else [])), .c (.bool (mailOk m))], []) := by
  obtain ⟨h0, ks, kv, ko⟩ := h
  have h1 := impl_MailOk.says ko m hl
  refine run_code (b := impl_MailText.m) h0 ⟨m.flags.length + 1, ?_⟩
  simp only [encMail] at h1
  cases c : mailOk m
  · rw [c] at h1
    simp (maxSteps := 1000000) [exB, impl_MailText.m, impl_MailText.b, List.range_succ, bs_get, setAt, h1]
  rw [c] at h1
  obtain ⟨v1, v2, v3, v4, v5⟩ := mailOk_vars c
  have h2 := impl_vars.says kv [m.gid, m.uid] (by simp) (by simp; exact ⟨v1, v2⟩)
  have h3 := impl_short.says ks m.text (by omega)
  have l1 : (texts varI [m.gid, m.uid]).length ≤ 20 := by have := isVar_len v1; have := isVar_len v2; simp [texts]; omega
  obtain ⟨g, hr⟩ := text_loop (f := exC (run M) (m.flags.length + 1) impl_MailText.l0) m.flags regT 30 20 (fun r hr => regT_len (v4 r hr)) (mtS m) 0 (mtE m)
    (fun i hi s x hs => by
      obtain ⟨v, x⟩ := x
      have e5 : IntKind.i64.wrap ((i : Int) + 1) = (i : Int) + 1 := wrap_i64 (by omega) (by omega)
      have hx := regOk_vars (v4 _ (List.getElem_mem hi))
      have h4 := impl_vars.says kv [m.flags[i].val, m.flags[i].time, m.flags[i].who] (by simp) (by simp; exact ⟨hx.1, hx.2.1, hx.2.2⟩)
      have h5 := regT_len (v4 _ (List.getElem_mem hi))
      change run M 151 _ _ = some (.c (S (regT m.flags[i])), []) at h4
      simp only [ints, irow, List.map_cons, List.map_nil] at h4
      simp only [Prod.exists]
      simp (maxSteps := 1000000) (disch := (first | omega | (simp; done) | (simp; omega))) [impl_MailText.l0, List.range_succ, bs_get, List.take_of_length_le, setAt, str_add, mtS, hi, h4, e5, encReg])
    (fun s x => by
      obtain ⟨v, x⟩ := x
      simp only [Prod.exists]
      simp (maxSteps := 1000000) [impl_MailText.l0, List.range_succ, bs_get, setAt, mtS, mtE]) (texts varI [m.gid, m.uid]) l1
  have l2 := texts_len regT m.flags 30 fun r hr => regT_len (v4 r hr)
  have l3 := varT_len (n := m.text.length) (by omega)
  have l4 : (shortT m.text).length ≤ 70 := by simp [shortT]; omega
  have l5 : (texts varI [m.gid, m.uid] ++ texts regT m.flags).length + (shortT m.text).length ≤ 4611686018427387904 := by simp; omega
  simp only [ints, irow, List.map_cons, List.map_nil] at h2
  generalize hp : texts varI [m.gid, m.uid] = p at *
  simp [mtS, mtE] at hr
  simp at l5
  simp (maxSteps := 1000000) (disch := (first | omega | (simp; done) | (simp; omega))) [exB, impl_MailText.m, impl_MailText.b, List.range_succ, bs_get, List.take_of_length_le, setAt, str_add, hr, h1, h2, h3, mailT, hp]
def msS (m : Mail) (i : Nat) (s : List UInt8) (x : Nat × Nat) : St := { t := [(1, .c (.ptr 1 x.1 0 0)), (4, .c (S s)), (5, .c (I i))], o := [(1, ⟨x.1, 4, true, true, [encMail m]⟩)], n := x.2 }
def msE (m : Mail) (s : List UInt8) (x : Nat × Nat) : St := { t := [(1, .c (.ptr 1 x.1 0 0)), (4, .c (S s)), (5, .c (I m.flags.length)), (20, .c (.bool false))], o := [(1, ⟨x.1, 4, true, true, [encMail m]⟩)], n := x.2 }
theorem spec_MailText.says (h : spec_MailText.k M) (m : Mail) (hl : m.flags.length ≤ 1048576) : run M 122 [.a (encMail m)] [] = some (.tup [.c (S (if mailOk m = true then mailT m else [])), .c (.bool (mailOk m))], []) := by
  obtain ⟨h0, kv, ko⟩ := h
  have h1 := spec_MailOk.says ko m hl
  refine run_code (b := spec_MailText.m) h0 ⟨m.flags.length + 1, ?_⟩
  simp only [encMail] at h1
  cases c : mailOk m
  · rw [c] at h1
    simp (maxSteps := 1000000) [exB, spec_MailText.m, spec_MailText.b, List.range_succ, bs_get, setAt, h1]
  rw [c] at h1
  obtain ⟨v1, v2, v3, v4, v5⟩ := mailOk_vars c
  have h2 := spec_l01Var.int kv m.gid v1.1 (by have := v1.2; omega)
  have h2' := spec_l01Var.int kv m.uid v2.1 (by have := v2.2; omega)
  have h3 := spec_l01Var.says kv m.text.length (by omega)
  have l0 := isVar_len v1
  have l0' := isVar_len v2
  obtain ⟨g, hr⟩ := text_loop (f := exC (run M) (m.flags.length + 1) spec_MailText.l0) m.flags regT 30 20 (fun r hr => regT_len (v4 r hr)) (msS m) 0 (msE m)
    (fun i hi s x hs => by
      obtain ⟨v, x⟩ := x
      have e5 : IntKind.i64.wrap ((i : Int) + 1) = (i : Int) + 1 := wrap_i64 (by omega) (by omega)
      have hx := regOk_vars (v4 _ (List.getElem_mem hi))
      have h4 := spec_l01Var.int kv m.flags[i].val hx.1.1 (by have := hx.1.2; omega)
      have h5 := spec_l01Var.int kv m.flags[i].time hx.2.1.1 (by have := hx.2.1.2; omega)
      have h6 := spec_l01Var.int kv m.flags[i].who hx.2.2.1 (by have := hx.2.2.2; omega)
      have l1 := isVar_len hx.1
      have l2 := isVar_len hx.2.1
      have l3 := isVar_len hx.2.2
      simp only [Prod.exists]
      simp (maxSteps := 1000000) (disch := (first | omega | (simp; done) | (simp; omega))) [spec_MailText.l0, List.range_succ, bs_get, List.take_of_length_le, setAt, str_add, msS, hi, h4, h5, h6, e5, encReg, regT, texts])
    (fun s x => by
      obtain ⟨v, x⟩ := x
      simp only [Prod.exists]
      simp (maxSteps := 1000000) [spec_MailText.l0, List.range_succ, bs_get, setAt, msS, msE]) (varI m.gid ++ varI m.uid) (by simp; omega)
  have l2 := texts_len regT m.flags 30 fun r hr => regT_len (v4 r hr)
  have l3 := varT_len (n := m.text.length) (by omega)
  have hp : texts varI [m.gid, m.uid] = varI m.gid ++ varI m.uid := by simp [texts]
  have hm : mailT m = varI m.gid ++ (varI m.uid ++ (texts regT m.flags ++ (varT m.text.length ++ m.text))) := by simp [mailT, hp, shortT]
  simp [msS, msE] at hr
  rw [hm]
  simp (maxSteps := 1000000) (disch := (first | omega | (simp; done) | (simp; omega))) [exB, spec_MailText.m, spec_MailText.b, List.range_succ, bs_get, List.take_of_length_le, setAt, str_add, hr, h1, h2, h2', h3]

/-! ## boxes -/
theorem stampOk_vars {t w : Int} (h : stampOk t w = true) : isVar t ∧ isVar w := by
  simp only [stampOk, Bool.and_eq_true, inR_iff] at h
  unfold isVar; omega
theorem gidsOk_vars {l : List Int} {most : Int} (h : gidsOk l most = true) : (l.length : Int) ≤ most ∧ ∀ n ∈ l, 1 ≤ n ∧ n ≤ 9999 := by
  simp only [gidsOk, Bool.and_eq_true, decide_eq_true_eq, Option.isNone_iff_eq_none, firstN_isNone] at h
  refine ⟨h.2, fun r hr => ?_⟩
  obtain ⟨i, hi, e⟩ := List.getElem_of_mem hr
  have := h.1 i hi
  rw [badGid_at hi, e] at this
  simp at this
  exact inR_iff.1 this.1
theorem nameOk_len {l : List UInt8} (h : nameOk l = true) : 1 ≤ l.length ∧ l.length ≤ 12 := by
  simp only [nameOk, Bool.and_eq_true, inR_iff] at h
  omega
theorem boxOk_vars {b : Box} (h : boxOk b = true) : isVar b.gid ∧ b.name.length ≤ 12 ∧ isVar b.time ∧ isVar b.who ∧ isVar b.next ∧ b.mails.length ≤ 10 ∧ b.gone.length ≤ 40 ∧ (∀ n ∈ b.gone, isVar n) ∧ ∀ m ∈ b.mails, mailOk m = true := by
  simp only [boxOk, Bool.and_eq_true, decide_eq_true_eq, Option.isNone_iff_eq_none, firstN_isNone, inR_iff] at h
  obtain ⟨⟨⟨⟨⟨⟨h1, h2⟩, h3⟩, h4⟩, h5⟩, h6⟩, h7⟩ := h
  have hn := nameOk_len h2
  have hs := stampOk_vars h3
  have hg := gidsOk_vars h6
  refine ⟨⟨by omega, by omega⟩, hn.2, hs.1, hs.2, ⟨by omega, by omega⟩, h5, by omega, fun n hn => ⟨by have := hg.2 n hn; omega, by have := hg.2 n hn; omega⟩, fun m hm => ?_⟩
  obtain ⟨i, hi, e⟩ := List.getElem_of_mem hm
  have := h7 i hi
  rw [badMail_at hi, e] at this
  simp at this
  exact this.1.1.1.1
/-- ahead of the mails -/
def boxP (b : Box) : List UInt8 := varI b.gid ++ (varT b.name.length ++ (b.name ++ (varI b.time ++ (varI b.who ++ (varI b.next ++ varT b.mails.length)))))
def boxT (b : Box) : List UInt8 := boxP b ++ (texts mailT b.mails ++ (varT b.gone.length ++ texts varI b.gone))
theorem boxP_len {b : Box} (h : boxOk b = true) : (boxP b).length ≤ 200 := by
  obtain ⟨h1, h2, h3, h4, h5, h6, _⟩ := boxOk_vars h
  have := isVar_len h1; have := isVar_len h3; have := isVar_len h4; have := isVar_len h5
  have := varT_len (n := b.name.length) (by omega); have := varT_len (n := b.mails.length) (by omega)
  simp [boxP]; omega
def bxS (b : Box) (i : Nat) (s : List UInt8) (x : Nat × Nat) : St := { t := [(1, .c (.ptr 1 x.1 0 0)), (3, .c (S s)), (31, .c (mails b.mails)), (32, .c (I b.mails.length)), (33, .c (I i))], o := [(1, ⟨x.1, 7, true, true, [encBox b]⟩)], n := x.2 }
def bxE (b : Box) (s : List UInt8) (x : Nat × Nat) : St := { t := [(1, .c (.ptr 1 x.1 0 0)), (3, .c (S s)), (31, .c (mails b.mails)), (32, .c (I b.mails.length)), (33, .c (I b.mails.length)), (34, .c (.bool false))], o := [(1, ⟨x.1, 7, true, true, [encBox b]⟩)], n := x.2 }
set_option maxHeartbeats 1000000 in
theorem impl_boxText.says (h : impl_boxText.k M) (b : Box) (c : boxOk b = true) : run M 123 [.a (encBox b)] [] = some (.c (S (boxT b)), []) := by
  obtain ⟨h0, ks, kv, km⟩ := h
  refine run_code (b := impl_boxText.m) h0 ⟨b.mails.length + 1, ?_⟩
  obtain ⟨v1, v2, v3, v4, v5, v6, v7, v8, v9⟩ := boxOk_vars c
  have h1 := impl_vars.says kv [b.gid] (by simp) (by simp; exact v1)
  have h2 := impl_short.says ks b.name (by omega)
  have h3 := impl_vars.says kv [b.time, b.who, b.next, b.mails.length] (by simp) (by simp; exact ⟨v3, v4, v5, by unfold isVar; omega⟩)
  have h4 := impl_vars.says kv [b.gone.length] (by simp) (by simp; unfold isVar; omega)
  have h5 := impl_vars.says kv b.gone (by omega) v8
  have l1 := isVar_len v1; have l3 := isVar_len v3; have l4 := isVar_len v4; have l5 := isVar_len v5
  have l6 := varT_len (n := b.name.length) (by omega); have l7 := varT_len (n := b.mails.length) (by omega); have l8 := varT_len (n := b.gone.length) (by omega)
  have l9 := texts_len varI b.gone 10 fun n hn => isVar_len (v8 n hn)
  have l10 := texts_len mailT b.mails 1000 fun m hm => mailT_len (v9 m hm)
  have hp := boxP_len c
  obtain ⟨g, hr⟩ := text_loop (f := exC (run M) (b.mails.length + 1) impl_boxText.l0) b.mails mailT 1000 200 (fun m hm => mailT_len (v9 m hm)) (bxS b) 0 (bxE b)
    (fun i hi s x hs => by
      obtain ⟨v, x⟩ := x
      have e5 : IntKind.i64.wrap ((i : Int) + 1) = (i : Int) + 1 := wrap_i64 (by omega) (by omega)
      have hx := v9 _ (List.getElem_mem hi)
      have h6 := impl_MailText.says km b.mails[i] (by have := (mailOk_vars hx).2.2.1; omega)
      rw [if_pos hx, hx] at h6
      have h7 := mailT_len hx
      simp only [encMail] at h6
      simp only [Prod.exists]
      simp (maxSteps := 1000000) (disch := (first | omega | (simp; done) | (simp; omega))) [impl_boxText.l0, List.range_succ, bs_get, List.take_of_length_le, setAt, str_add, bxS, hi, h6, e5, encMail])
    (fun s x => by
      obtain ⟨v, x⟩ := x
      simp only [Prod.exists]
      simp (maxSteps := 1000000) [impl_boxText.l0, List.range_succ, bs_get, setAt, bxS, bxE]) (boxP b) hp
  have q1 : texts varI [b.gid] = varI b.gid := by simp [texts]
  have q3 : texts varI [b.time, b.who, b.next, (b.mails.length : Int)] = varI b.time ++ (varI b.who ++ (varI b.next ++ varT b.mails.length)) := by simp [texts, varI]
  have q4 : texts varI [(b.gone.length : Int)] = varT b.gone.length := by simp [texts, varI]
  rw [q1] at h1
  rw [q3] at h3
  rw [q4] at h4
  simp only [ints, irow, List.map_cons, List.map_nil, shortT] at h1 h2 h3 h4
  simp [bxS, bxE] at hr
  have e1 := str_add (varI b.gid) (varT b.name.length ++ b.name) (by simp; omega)
  have e2 := str_add (varI b.gid ++ (varT b.name.length ++ b.name)) (varI b.time ++ (varI b.who ++ (varI b.next ++ varT b.mails.length))) (by simp; omega)
  have e3 : boxP b = (varI b.gid ++ (varT b.name.length ++ b.name)) ++ (varI b.time ++ (varI b.who ++ (varI b.next ++ varT b.mails.length))) := by simp [boxP]
  rw [← e3] at e2
  have e4 := str_add (boxP b ++ texts mailT b.mails) (varT b.gone.length) (by simp; omega)
  have e5 := str_add (boxP b ++ texts mailT b.mails ++ varT b.gone.length) (texts varI b.gone) (by simp; omega)
  simp only [List.append_assoc] at e1 e2 e4 e5
  simp only [boxT]
  generalize boxP b = p at *
  generalize texts mailT b.mails = q at *
  generalize texts varI b.gone = r at *
  simp (maxSteps := 1000000) [exB, impl_boxText.m, impl_boxText.b, List.range_succ, bs_get, setAt, hr, h1, h2, h3, h4, h5, e1, e2, e4, e5, List.take_of_length_le]
theorem impl_BoxText.says (h : impl_BoxText.k M) (b : Box) (hml : b.mails.length ≤ 1048576) (hgl : b.gone.length ≤ 4611686018427387904) (hnl : b.name.length ≤ 4611686018427387904) (hw : ∀ m ∈ b.mails, m.flags.length ≤ 1048576) :
    run M 35 [.a (encBox b)] [] = some (.tup [.c (S (if boxOk b = true then boxT b else [])), .c (.bool (boxOk b))], []) := by
  obtain ⟨h0, ko, kt⟩ := h
  have h1 := impl_BoxOk.says ko b hml hgl hnl hw
  refine run_code (b := impl_BoxText.m) h0 ⟨0, ?_⟩
  simp only [encBox] at h1
  cases c : boxOk b
  · rw [c] at h1
    simp (maxSteps := 1000000) [exB, impl_BoxText.m, impl_BoxText.b, List.range_succ, bs_get, setAt, h1]
  rw [c] at h1
  have h2 := impl_boxText.says kt b c
  simp only [encBox] at h2
  simp (maxSteps := 1000000) [exB, impl_BoxText.m, impl_BoxText.b, List.range_succ, bs_get, setAt, h1, h2]
def btS (b : Box) (i : Nat) (s : List UInt8) (x : Nat × Nat) : St := { t := [(1, .c (.ptr 1 x.1 0 0)), (4, .c (S s)), (5, .c (I i))], o := [(1, ⟨x.1, 7, true, true, [encBox b]⟩)], n := x.2 }
def btE (b : Box) (s : List UInt8) (x : Nat × Nat) : St := { t := [(1, .c (.ptr 1 x.1 0 0)), (4, .c (S s)), (5, .c (I b.mails.length)), (46, .c (.bool false))], o := [(1, ⟨x.1, 7, true, true, [encBox b]⟩)], n := x.2 }
def bgS (b : Box) (i : Nat) (s : List UInt8) (x : Nat × Nat) : St := { t := [(1, .c (.ptr 1 x.1 0 0)), (4, .c (S s)), (8, .c (I i))], o := [(1, ⟨x.1, 7, true, true, [encBox b]⟩)], n := x.2 }
def bgE (b : Box) (s : List UInt8) (x : Nat × Nat) : St := { t := [(1, .c (.ptr 1 x.1 0 0)), (4, .c (S s)), (8, .c (I b.gone.length)), (71, .c (.bool false))], o := [(1, ⟨x.1, 7, true, true, [encBox b]⟩)], n := x.2 }
set_option maxHeartbeats 1000000 in
theorem spec_BoxText.says (h : spec_BoxText.k M) (b : Box) (hml : b.mails.length ≤ 1048576) (hgl : b.gone.length ≤ 4611686018427387904) (hnl : b.name.length ≤ 4611686018427387904) (hw : ∀ m ∈ b.mails, m.flags.length ≤ 1048576) :
    run M 34 [.a (encBox b)] [] = some (.tup [.c (S (if boxOk b = true then boxT b else [])), .c (.bool (boxOk b))], []) := by
  obtain ⟨h0, ko, kv, km⟩ := h
  have h1 := spec_BoxOk.says ko b hml hgl hnl hw
  refine run_code (b := spec_BoxText.m) h0 ⟨b.mails.length + b.gone.length + 1, ?_⟩
  simp only [encBox] at h1
  cases c : boxOk b
  · rw [c] at h1
    simp (maxSteps := 1000000) [exB, spec_BoxText.m, spec_BoxText.b, List.range_succ, bs_get, setAt, h1]
  rw [c] at h1
  obtain ⟨v1, v2, v3, v4, v5, v6, v7, v8, v9⟩ := boxOk_vars c
  have g1 := spec_l01Var.int kv b.gid v1.1 (by have := v1.2; omega)
  have g2 := spec_l01Var.says kv b.name.length (by omega)
  have g3 := spec_l01Var.int kv b.time v3.1 (by have := v3.2; omega)
  have g4 := spec_l01Var.int kv b.who v4.1 (by have := v4.2; omega)
  have g5 := spec_l01Var.int kv b.next v5.1 (by have := v5.2; omega)
  have g6 := spec_l01Var.says kv b.mails.length (by omega)
  have g7 := spec_l01Var.says kv b.gone.length (by omega)
  have l1 := isVar_len v1; have l3 := isVar_len v3; have l4 := isVar_len v4; have l5 := isVar_len v5
  have l6 := varT_len (n := b.name.length) (by omega); have l7 := varT_len (n := b.mails.length) (by omega); have l8 := varT_len (n := b.gone.length) (by omega)
  have l9 := texts_len varI b.gone 10 fun n hn => isVar_len (v8 n hn)
  have l10 := texts_len mailT b.mails 1000 fun m hm => mailT_len (v9 m hm)
  have hp := boxP_len c
  obtain ⟨g, hr⟩ := text_loop (f := exC (run M) (b.mails.length + b.gone.length + 1) spec_BoxText.l0) b.mails mailT 1000 200 (fun m hm => mailT_len (v9 m hm)) (btS b) 0 (btE b)
    (fun i hi s x hs => by
      obtain ⟨v, x⟩ := x
      have e5 : IntKind.i64.wrap ((i : Int) + 1) = (i : Int) + 1 := wrap_i64 (by omega) (by omega)
      have hx := v9 _ (List.getElem_mem hi)
      have h6 := spec_MailText.says km b.mails[i] (by have := (mailOk_vars hx).2.2.1; omega)
      rw [if_pos hx, hx] at h6
      have h7 := mailT_len hx
      simp only [encMail] at h6
      simp only [Prod.exists]
      have e6 := str_add s (mailT b.mails[i]) (by omega)
      simp (maxSteps := 1000000) [spec_BoxText.l0, List.range_succ, bs_get, setAt, btS, hi, h6, e5, e6, encMail])
    (fun s x => by
      obtain ⟨v, x⟩ := x
      simp only [Prod.exists]
      simp (maxSteps := 1000000) [spec_BoxText.l0, List.range_succ, bs_get, setAt, btS, btE]) (boxP b) hp
  obtain ⟨g', hr'⟩ := text_loop (f := exC (run M) (b.mails.length + b.gone.length + 1) spec_BoxText.l1) b.gone varI 10 11000 (fun n hn => isVar_len (v8 n hn)) (bgS b) 2 (bgE b)
    (fun i hi s x hs => by
      obtain ⟨v, x⟩ := x
      have e5 : IntKind.i64.wrap ((i : Int) + 1) = (i : Int) + 1 := wrap_i64 (by omega) (by omega)
      have hx := v8 _ (List.getElem_mem hi)
      have h6 := spec_l01Var.int kv b.gone[i] hx.1 (by have := hx.2; omega)
      have h7 := isVar_len hx
      simp only [Prod.exists]
      have e6 := str_add s (varI b.gone[i]) (by omega)
      simp (maxSteps := 1000000) [spec_BoxText.l1, List.range_succ, bs_get, setAt, bgS, hi, h6, e5, e6])
    (fun s x => by
      obtain ⟨v, x⟩ := x
      simp only [Prod.exists]
      simp (maxSteps := 1000000) [spec_BoxText.l1, List.range_succ, bs_get, setAt, bgS, bgE]) (boxP b ++ texts mailT b.mails ++ varT b.gone.length) (by simp; omega)
  have e1 := str_add (varI b.gid) (varT b.name.length) (by omega)
  have e2 := str_add (varI b.gid ++ varT b.name.length) b.name (by simp; omega)
  have e3 := str_add (varI b.gid ++ varT b.name.length ++ b.name) (varI b.time) (by simp; omega)
  have e4 := str_add (varI b.gid ++ varT b.name.length ++ b.name ++ varI b.time) (varI b.who) (by simp; omega)
  have e5 := str_add (varI b.gid ++ varT b.name.length ++ b.name ++ varI b.time ++ varI b.who) (varI b.next) (by simp; omega)
  have e6 := str_add (varI b.gid ++ varT b.name.length ++ b.name ++ varI b.time ++ varI b.who ++ varI b.next) (varT b.mails.length) (by simp; omega)
  have e7 : boxP b = varI b.gid ++ varT b.name.length ++ b.name ++ varI b.time ++ varI b.who ++ varI b.next ++ varT b.mails.length := by simp [boxP]
  rw [← e7] at e6
  have e8 := str_add (boxP b ++ texts mailT b.mails) (varT b.gone.length) (by simp; omega)
  simp only [List.append_assoc] at e1 e2 e3 e4 e5 e6 e8
  simp [btS, btE] at hr
  simp [bgS, bgE] at hr'
  simp only [boxT]
  have m1 : b.mails.length + 1 ≤ b.mails.length + b.gone.length + 1 := by omega
  have m2 : b.gone.length + 1 ≤ b.mails.length + b.gone.length + 1 := by omega
  have hr2 := fun x y => loopN_le (hr x y) m1
  have hr3 := fun x y => loopN_le (hr' x y) m2
  generalize boxP b = p at *
  generalize texts mailT b.mails = q at *
  generalize texts varI b.gone = r at *
  simp (maxSteps := 1000000) [exB, spec_BoxText.m, spec_BoxText.b, List.range_succ, bs_get, setAt, hr2, hr3, h1, g1, g2, g3, g4, g5, g6, g7, e1, e2, e3, e4, e5, e6, e8]
theorem wBox_all {b : Box} {n : Nat} (h : wBox b ≤ n) : b.mails.length ≤ n ∧ b.gone.length ≤ n ∧ b.name.length ≤ n ∧ ∀ m ∈ b.mails, m.flags.length ≤ n := by
  unfold wBox at h
  refine ⟨by unfold wMails at h; omega, by omega, by omega, fun m hm => ?_⟩
  have := wMail_le hm; unfold wMail at this; omega
theorem laws_FnExactBoxText.says (h : laws_FnExactBoxText.k M) (b : Box) (hb : BoxFits b) : run M 368 [.a (encBox b)] [] = some (.c (.bool true), []) := by
  obtain ⟨h0, k1, k2, k5, k3, k4⟩ := h
  have h1 := laws_szBox.says k1 b hb 1048576 (by omega)
  refine run_code (b := laws_FnExactBoxText.m) h0 ⟨0, ?_⟩
  by_cases c : 1048576 < wBox b
  · rw [if_pos c] at h1
    simp only [Int.cast_ofNat_Int, encBox] at h1
    simp (maxSteps := 1000000) [exB, laws_FnExactBoxText.m, laws_FnExactBoxText.b, List.range_succ, bs_get, setAt, h1]
  · rw [if_neg c] at h1
    simp only [Int.cast_ofNat_Int] at h1
    have hw : wBox b ≤ 1048576 := by omega
    obtain ⟨w1, w2, w3, w4⟩ := wBox_all hw
    have e1 : ¬ (1048576 : Int) - wBox b < 0 := by omega
    have h2 := laws_toBox.says k2 b hw
    have h3 := spec_BoxText.says k3 b w1 (by omega) (by omega) w4
    have h4 := impl_BoxText.says k4 b w1 (by omega) (by omega) w4
    have h5 := laws_eqBox.says k5 b hw
    simp only [encBox, encBoxO] at h1 h2 h3 h4 h5
    generalize (if boxOk b = true then boxT b else []) = r at *
    generalize boxOk b = q at *
    simp (maxSteps := 1000000) [exB, laws_FnExactBoxText.m, laws_FnExactBoxText.b, List.range_succ, bs_get, setAt, h1, h2, h3, h4, h5, e1]
theorem laws_FnExactBoxText.row (h : laws_FnExactBoxText.k M) {as : List V} (ha : HasVs [.struct ctBox] as) : run M 368 as [] = some (.c (.bool true), []) := by
  cases ha with | cons h0 ha =>
  cases ha
  cases h0 with | struct h0 =>
  obtain ⟨b, rfl, hb⟩ := has_box h0
  exact laws_FnExactBoxText.says h b hb
end Mx

/-
  Readers over a cursor: numbers, texts, stamps, lists of numbers, mails, boxes.
-/
namespace Mx
open Go
variable {M : Nat → Option Body}
/-- a cursor: where it stands, and whether something did not stand there -/
abbrev Cur := Int × Bool
abbrev curO (v : Nat) (l : List UInt8) (c : Cur) : Ob := ⟨v, 3, true, true, [[S l, I c.1, .bool c.2]]⟩
abbrev curP : T := .ptr 0 0 0 0
def cvar (l : List UInt8) (c : Cur) : Int × Cur := if c.2 = true ∨ (readVar l c.1).2.2 = false then (0, c.1, true) else ((readVar l c.1).1, (readVar l c.1).2.1, false)
def cshort (l : List UInt8) (c : Cur) : List UInt8 × Cur := if c.2 = true ∨ (readShort l c.1).2.2 = false then ([], c.1, true) else ((readShort l c.1).1, (readShort l c.1).2.1, false)
theorem cvar_bad {l : List UInt8} {c : Cur} (h : c.2 = true) : cvar l c = (0, c.1, true) := by simp [cvar, h]
theorem cshort_bad {l : List UInt8} {c : Cur} (h : c.2 = true) : cshort l c = ([], c.1, true) := by simp [cshort, h]
theorem impl_scan_num.says (h : impl_scan_num.k M) (l : List UInt8) (hl : l.length ≤ 4611686018427387904) (c : Cur) :
    run M 152 [.c curP] [(0, curO 0 l c)] = some (.c (I (cvar l c).1), [(0, curO 0 l (cvar l c).2)]) := by
  obtain ⟨a, b⟩ := c
  have h1 := impl_ReadVar.says h.2 l hl a
  refine run_code (b := impl_scan_num.m) h.1 ⟨0, ?_⟩
  unfold cvar
  generalize readVar l a = r at *
  obtain ⟨n, e, ok⟩ := r
  cases b <;> cases ok <;> simp (maxSteps := 1000000) [exB, impl_scan_num.m, impl_scan_num.b, List.range_succ, bs_get, setAt, h1]
theorem impl_scan_short.says (h : impl_scan_short.k M) (l : List UInt8) (hl : l.length ≤ 4611686018427387904) (c : Cur) :
    run M 153 [.c curP] [(0, curO 0 l c)] = some (.c (S (cshort l c).1), [(0, curO 0 l (cshort l c).2)]) := by
  obtain ⟨a, b⟩ := c
  have h1 := impl_ReadShort.says h.2 l hl a
  refine run_code (b := impl_scan_short.m) h.1 ⟨0, ?_⟩
  unfold cshort
  generalize readShort l a = r at *
  obtain ⟨n, e, ok⟩ := r
  cases b <;> cases ok <;> simp (maxSteps := 1000000) [exB, impl_scan_short.m, impl_scan_short.b, List.range_succ, bs_get, setAt, h1]
theorem spec_l05Var.says (h : spec_l05Var.k M) (l : List UInt8) (hl : l.length ≤ 4611686018427387904) (c : Cur) :
    run M 139 [.c curP] [(0, curO 0 l c)] = some (.c (I (cvar l c).1), [(0, curO 0 l (cvar l c).2)]) := by
  obtain ⟨a, b⟩ := c
  have h1 := spec_ReadVar.says h.2 l hl a
  refine run_code (b := spec_l05Var.m) h.1 ⟨0, ?_⟩
  unfold cvar
  generalize readVar l a = r at *
  obtain ⟨n, e, ok⟩ := r
  cases b <;> cases ok <;> simp (maxSteps := 1000000) [exB, spec_l05Var.m, spec_l05Var.b, List.range_succ, bs_get, setAt, h1]
theorem spec_l05Short.says (h : spec_l05Short.k M) (l : List UInt8) (hl : l.length ≤ 4611686018427387904) (c : Cur) :
    run M 140 [.c curP] [(0, curO 0 l c)] = some (.c (S (cshort l c).1), [(0, curO 0 l (cshort l c).2)]) := by
  obtain ⟨a, b⟩ := c
  have h1 := spec_ReadShort.says h.2 l hl a
  refine run_code (b := spec_l05Short.m) h.1 ⟨0, ?_⟩
  unfold cshort
  generalize readShort l a = r at *
  obtain ⟨n, e, ok⟩ := r
  cases b <;> cases ok <;> simp (maxSteps := 1000000) [exB, spec_l05Short.m, spec_l05Short.b, List.range_succ, bs_get, setAt, h1]
/-- how many: more than a limit is a fault -/
def cmany (l : List UInt8) (most : Int) (c : Cur) : Int × Cur :=
  if most < (cvar l c).1 ∨ (cvar l c).2.2 = true then (0, (cvar l c).2.1, true) else cvar l c
theorem impl_scan_many.says (h : impl_scan_many.k M) (l : List UInt8) (hl : l.length ≤ 4611686018427387904) (most : Int) (c : Cur) :
    run M 169 [.c curP, .c (I most)] [(0, curO 0 l c)] = some (.c (I (cmany l most c).1), [(0, curO 0 l (cmany l most c).2)]) := by
  have h1 := impl_scan_num.says h.2 l hl c
  refine run_code (b := impl_scan_many.m) h.1 ⟨0, ?_⟩
  unfold cmany
  generalize cvar l c = r at *
  obtain ⟨n, e, b⟩ := r
  by_cases c1 : most < n
  · simp (maxSteps := 1000000) [exB, impl_scan_many.m, impl_scan_many.b, List.range_succ, bs_get, setAt, h1, c1]
  · cases b <;> simp (maxSteps := 1000000) [exB, impl_scan_many.m, impl_scan_many.b, List.range_succ, bs_get, setAt, h1, c1]
/-- a stamp -/
def cstamp (l : List UInt8) (c : Cur) : (Int × Int) × Cur := (((cvar l c).1, (cvar l (cvar l c).2).1), (cvar l (cvar l c).2).2)
theorem impl_scan_stamp.says (h : impl_scan_stamp.k M) (l : List UInt8) (hl : l.length ≤ 4611686018427387904) (c : Cur) :
    run M 222 [.c curP] [(0, curO 0 l c)] = some (.a [I (cstamp l c).1.1, I (cstamp l c).1.2], [(0, curO 0 l (cstamp l c).2)]) := by
  have h1 := impl_scan_num.says h.2 l hl c
  have h2 := impl_scan_num.says h.2 l hl (cvar l c).2
  refine run_code (b := impl_scan_stamp.m) h.1 ⟨0, ?_⟩
  simp (maxSteps := 1000000) [exB, impl_scan_stamp.m, impl_scan_stamp.b, List.range_succ, bs_get, setAt, h1, h2, cstamp]
/-- n things one behind the other -/
def crep {α : Type} (p : Cur → α × Cur) : Nat → Cur → List α × Cur
  | 0, c => ([], c)
  | n + 1, c => ((p c).1 :: (crep p n (p c).2).1, (crep p n (p c).2).2)
theorem crep_len {α : Type} (p : Cur → α × Cur) : ∀ n c, (crep p n c).1.length = n
  | 0, c => rfl
  | n + 1, c => by simp [crep, crep_len p n]
theorem rep_loop {α β γ : Type} (n : Nat) (p : Cur → α × Cur) {f : St → Option (Out × St)} (S : Nat → List α → Cur → β → St) (e : Nat) (E : List α → Cur → γ → St)
    (h1 : ∀ i, i < n → ∀ acc c x, acc.length = i → ∃ y, f (S i acc c x) = some (.normal, S (i + 1) (acc ++ [(p c).1]) (p c).2 y))
    (h3 : ∀ acc c x, acc.length = n → ∃ y, f (S n acc c x) = some (.exit e, E acc c y)) (c : Cur) :
    ∃ g : β → γ, ∀ x, loopN f (n + 1) (S 0 [] c x) = some (.exit e, E (crep p n c).1 (crep p n c).2 (g x)) := by
  have := loop_all (f := f) (fun s : Nat × List α × Cur => S s.1 s.2.1 s.2.2) (fun s => s.1 ≤ n ∧ s.2.1.length = s.1) (fun s => n - s.1) (fun s => (s.2.1 ++ (crep p (n - s.1) s.2.2).1, (crep p (n - s.1) s.2.2).2)) (fun q m => (.exit e, E q.1 q.2 m)) ?_ (n + 1) (0, [], c) ⟨Nat.zero_le _, rfl⟩ (by simp)
  · simpa using this
  rintro ⟨i, acc, c⟩ x ⟨hi, ha⟩
  simp only at hi ha
  by_cases hlt : i < n
  · left
    obtain ⟨y, hy⟩ := h1 i hlt acc c x ha
    refine ⟨(i + 1, acc ++ [(p c).1], (p c).2), y, hy, ⟨hlt, by simp [ha]⟩, by simp only; omega, ?_⟩
    simp only
    rw [show n - i = (n - (i + 1)) + 1 by omega]
    simp [crep]
  · have : i = n := by omega
    subst this
    right
    obtain ⟨y, hy⟩ := h3 acc c x ha
    exact ⟨y, by simp [hy, crep], by simp⟩
def cnums (l : List UInt8) (most : Int) (c : Cur) : List Int × Cur := crep (cvar l) (cmany l most c).1.toNat (cmany l most c).2
theorem cvar_nn (l : List UInt8) (c : Cur) : 0 ≤ (cvar l c).1 ∧ (cvar l c).1 ≤ 1000000000 := by
  have := (readVar_le l c.1).1
  unfold cvar; split <;> simp <;> omega
theorem cmany_nn (l : List UInt8) (most : Int) (c : Cur) : 0 ≤ (cmany l most c).1 ∧ (cmany l most c).1 ≤ 1000000000 ∧ (0 ≤ most → (cmany l most c).1 ≤ most) := by
  have := cvar_nn l c
  unfold cmany; split
  · simp
  · rename_i h; rw [not_or] at h; omega
def nuS (l : List UInt8) (n : Nat) (i : Nat) (acc : List Int) (c : Cur) (x : Nat × Nat) : St := { t := [(0, .c curP), (5, .c (.row 8 x.1 0 i)), (12, .c (I n)), (13, .c (I i))], o := [(0, curO 0 l c), (8, ⟨x.1, 1, true, false, irow acc⟩)], n := x.2 }
def nuE (l : List UInt8) (n : Nat) (acc : List Int) (c : Cur) (x : Nat × Nat) : St := { t := [(0, .c curP), (5, .c (.row 8 x.1 0 n)), (12, .c (I n)), (13, .c (I n)), (14, .c (.bool false))], o := [(0, curO 0 l c), (8, ⟨x.1, 1, true, false, irow acc⟩)], n := x.2 }
theorem impl_scan_nums.says (h : impl_scan_nums.k M) (l : List UInt8) (hl : l.length ≤ 4611686018427387904) (most : Int) (c : Cur) :
    run M 170 [.c curP, .c (I most)] [(0, curO 0 l c)] = some (.c (.sl true 1 (irow (cnums l most c).1)), [(0, curO 0 l (cnums l most c).2)]) := by
  obtain ⟨h0, k1, k2⟩ := h
  have h1 := impl_scan_many.says k2 l hl most c
  have hn := cmany_nn l most c
  unfold cnums
  generalize cmany l most c = q at *
  obtain ⟨n, c1⟩ := q
  simp only at hn ⊢
  obtain ⟨n, rfl⟩ := Int.eq_ofNat_of_zero_le hn.1
  simp only [Int.toNat_natCast]
  refine run_code (b := impl_scan_nums.m) h0 ⟨n + 1, ?_⟩
  obtain ⟨g, hr⟩ := rep_loop (f := exC (run M) (n + 1) impl_scan_nums.l0) n (cvar l) (nuS l n) 0 (nuE l n)
    (fun i hi acc c x ha => by
      obtain ⟨v, x⟩ := x
      have h2 := impl_scan_num.says k1 l hl c
      have e5 : IntKind.i64.wrap ((i : Int) + 1) = (i : Int) + 1 := wrap_i64 (by omega) (by omega)
      have e6 : i + 1 ≤ 4294967296 := by omega
      have hii : (i : Int) < n := by omega
      simp only [Prod.exists]
      simp (maxSteps := 1000000) [impl_scan_nums.l0, List.range_succ, bs_get, setAt, nuS, hii, h2, e5, e6, ha, irow, List.take_of_length_le])
    (fun acc c x ha => by
      obtain ⟨v, x⟩ := x
      simp only [Prod.exists]
      simp (maxSteps := 1000000) [impl_scan_nums.l0, List.range_succ, bs_get, setAt, nuS, nuE]) c1
  have hlen := crep_len (cvar l) n c1
  simp [nuS, nuE, irow] at hr
  simp (maxSteps := 1000000) [exB, impl_scan_nums.m, impl_scan_nums.b, List.range_succ, bs_get, setAt, h1, hr, hlen, irow, List.take_of_length_le]
theorem wrap_one : IntKind.i64.wrap 1 = 1 := wrap_i64 (by omega) (by omega)
/-! ## mails -/
def creg (l : List UInt8) (c : Cur) : Reg × Cur := (⟨(cvar l c).1, (cstamp l (cvar l c).2).1.1, (cstamp l (cvar l c).2).1.2⟩, (cstamp l (cvar l c).2).2)
def cmail (l : List UInt8) (c : Cur) : Mail × Cur :=
  let g := cvar l c
  let u := cvar l g.2
  let f := crep (creg l) 3 u.2
  let t := cshort l f.2
  (⟨g.1, u.1, f.1, t.1⟩, t.2)
abbrev bzero : List T := [I 0, .str ⟨#[]⟩, I 0, I 0, I 0, .nils 4, .nils 1]
abbrev mzero : List T := [I 0, I 0, .nils 3, .str ⟨#[]⟩]
structure Four where
  a : Nat
  b : Nat
  c : Nat
  d : Nat
theorem Four.ex {p : Four → Prop} : (∃ x, p x) ↔ ∃ a b c d, p ⟨a, b, c, d⟩ := ⟨fun ⟨⟨a, b, c, d⟩, h⟩ => ⟨a, b, c, d, h⟩, fun ⟨a, b, c, d, h⟩ => ⟨⟨a, b, c, d⟩, h⟩⟩
def mlS (l : List UInt8) (g u : Int) (i : Nat) (acc : List Reg) (c : Cur) (x : Four) : St := { t := [(0, .c curP), (2, .c (.ptr 2 x.a 0 0)), (3, .c (.ptr 3 x.b 0 0)), (11, .c (I i))], o := [(0, curO 0 l c), (2, ⟨x.a, 4, true, true, [mzero]⟩), (3, ⟨x.b, 4, true, true, [[I g, I u, if i = 0 then .nils 3 else .row 23 x.c 0 i, .str ⟨#[]⟩]]⟩)] ++ if i = 0 then [] else [(23, ⟨x.c, 3, true, false, acc.map encReg⟩)], n := x.d }
def mlE (l : List UInt8) (g u : Int) (acc : List Reg) (c : Cur) (x : Four) : St := { t := [(0, .c curP), (2, .c (.ptr 2 x.a 0 0)), (3, .c (.ptr 3 x.b 0 0)), (11, .c (I 3)), (12, .c (.bool false))], o := [(0, curO 0 l c), (2, ⟨x.a, 4, true, true, [mzero]⟩), (3, ⟨x.b, 4, true, true, [[I g, I u, .row 23 x.c 0 3, .str ⟨#[]⟩]]⟩), (23, ⟨x.c, 3, true, false, acc.map encReg⟩)], n := x.d }
theorem impl_scan_mail.says (h : impl_scan_mail.k M) (l : List UInt8) (hl : l.length ≤ 4611686018427387904) (c : Cur) :
    run M 223 [.c curP] [(0, curO 0 l c)] = some (.a (encMailO (cmail l c).1), [(0, curO 0 l (cmail l c).2)]) := by
  obtain ⟨h0, k1, k2, k3⟩ := h
  have h1 := impl_scan_num.says k1 l hl c
  have h2 := impl_scan_num.says k1 l hl (cvar l c).2
  refine run_code (b := impl_scan_mail.m) h0 ⟨4, ?_⟩
  obtain ⟨g, hr⟩ := rep_loop (f := exC (run M) 4 impl_scan_mail.l0) 3 (creg l) (mlS l (cvar l c).1 (cvar l (cvar l c).2).1) 0 (mlE l (cvar l c).1 (cvar l (cvar l c).2).1)
    (fun i hi acc c x ha => by
      obtain ⟨v, w, z, x⟩ := x
      have h2 := impl_scan_num.says k1 l hl c
      have h3 := impl_scan_stamp.says k3 l hl (cvar l c).2
      have e5 : IntKind.i64.wrap ((i : Int) + 1) = (i : Int) + 1 := wrap_i64 (by omega) (by omega)
      have hii : (i : Int) < 3 := by omega
      simp only [Four.ex]
      cases i with
      | zero =>
        have : acc = [] := List.eq_nil_of_length_eq_zero ha
        subst this
        simp (maxSteps := 1000000) [impl_scan_mail.l0, List.range_succ, bs_get, setAt, mlS, hii, h2, h3, wrap_one, encReg, creg]
      | succ i =>
        have e6 : i + 1 + 1 ≤ 4294967296 := by omega
        have e7 : (i : Int) + 1 < 3 := by omega
        have e5 : IntKind.i64.wrap ((i : Int) + 1 + 1) = (i : Int) + 1 + 1 := wrap_i64 (by omega) (by omega)
        simp (maxSteps := 1000000) [impl_scan_mail.l0, List.range_succ, bs_get, setAt, mlS, e7, h2, h3, e5, e6, ha, encReg, creg, List.take_of_length_le])
    (fun acc c x ha => by
      obtain ⟨v, w, z, x⟩ := x
      simp only [Four.ex]
      simp (maxSteps := 1000000) [impl_scan_mail.l0, List.range_succ, bs_get, setAt, mlS, mlE]) (cvar l (cvar l c).2).2
  have hlen := crep_len (creg l) 3 (cvar l (cvar l c).2).2
  have h4 := impl_scan_short.says k2 l hl (crep (creg l) 3 (cvar l (cvar l c).2).2).2
  simp only [cmail]
  generalize crep (creg l) 3 (cvar l (cvar l c).2).2 = q at *
  replace hr := fun a b d => hr ⟨a, b, 0, d⟩
  simp [mlS, mlE] at hr
  simp (maxSteps := 1000000) [exB, impl_scan_mail.m, impl_scan_mail.b, List.range_succ, bs_get, setAt, h1, h2, h4, hr, hlen, List.take_of_length_le]
end Mx

/-
  What is done in boxes: copies, flags.
-/
namespace Mx
open Go
variable {M : Nat → Option Body}
theorem impl_copyRegs.says (h : impl_copyRegs.k M) (l : List Reg) (hl : l.length ≤ 1048576) : run M 239 [.c (regs l)] [] = some (.c (.sl true 3 (l.map encReg)), []) := by
  refine run_code (b := impl_copyRegs.m) h ⟨0, ?_⟩
  have e : (l.map encReg).length = l.length := by simp
  have h1 : l.length ≤ 4294967296 := by omega
  simp only [regs]
  generalize l.map encReg = r at *
  simp (maxSteps := 1000000) [exB, impl_copyRegs.m, impl_copyRegs.b, List.range_succ, bs_get, setAt, e, h1, List.take_of_length_le]
theorem spec_l04Copy.says (h : spec_l04Copy.k M) (l : List Reg) (hl : l.length ≤ 1048576) : run M 241 [.c (regs l)] [] = some (.c (.sl true 3 (l.map encReg)), []) := by
  refine run_code (b := spec_l04Copy.m) h ⟨0, ?_⟩
  have e : (l.map encReg).length = l.length := by simp
  have h1 : l.length ≤ 4294967296 := by omega
  simp only [regs]
  generalize l.map encReg = r at *
  simp (maxSteps := 1000000) [exB, spec_l04Copy.m, spec_l04Copy.b, List.range_succ, bs_get, setAt, e, h1, List.take_of_length_le]
theorem impl_copyMail.says (h : impl_copyMail.k M) (m : Mail) (hl : m.flags.length ≤ 1048576) : run M 233 [.a (encMail m)] [] = some (.a (encMailO m), []) := by
  have h1 := impl_copyRegs.says h.2 m.flags hl
  refine run_code (b := impl_copyMail.m) h.1 ⟨0, ?_⟩
  have e : (m.flags.map encReg).length = m.flags.length := by simp
  simp only [encMail, encMailO, regs] at *
  generalize m.flags.map encReg = r at *
  simp (maxSteps := 1000000) [exB, impl_copyMail.m, impl_copyMail.b, List.range_succ, bs_get, setAt, h1, e, List.take_of_length_le]
theorem spec_l05Copy.says (h : spec_l05Copy.k M) (m : Mail) (hl : m.flags.length ≤ 1048576) : run M 238 [.a (encMail m)] [] = some (.a (encMailO m), []) := by
  have h1 := spec_l04Copy.says h.2 m.flags hl
  refine run_code (b := spec_l05Copy.m) h.1 ⟨0, ?_⟩
  have e : (m.flags.map encReg).length = m.flags.length := by simp
  simp only [encMail, encMailO, regs] at *
  generalize m.flags.map encReg = r at *
  simp (maxSteps := 1000000) [exB, spec_l05Copy.m, spec_l05Copy.b, List.range_succ, bs_get, setAt, h1, e, List.take_of_length_le]
/-- a loop that counts -/
theorem count_loop {β γ : Type} (n : Nat) {f : St → Option (Out × St)} (S : Nat → β → St) (e : Nat) (E : γ → St)
    (h1 : ∀ i, i < n → ∀ x, ∃ y, f (S i x) = some (.normal, S (i + 1) y)) (h3 : ∀ x, ∃ y, f (S n x) = some (.exit e, E y)) :
    ∃ g : β → γ, ∀ x, loopN f (n + 1) (S 0 x) = some (.exit e, E (g x)) := by
  refine loop_all (f := f) S (fun i => i ≤ n) (fun i => n - i) (fun _ => ()) (fun _ m => (.exit e, E m)) ?_ (n + 1) 0 (Nat.zero_le _) (by omega)
  intro i x hi
  by_cases hlt : i < n
  · left
    obtain ⟨y, hy⟩ := h1 i hlt x
    exact ⟨i + 1, y, hy, hlt, by omega, rfl⟩
  · have : i = n := by omega
    subst this
    right
    obtain ⟨y, hy⟩ := h3 x
    exact ⟨y, by simp [hy], by simp⟩
def icO (b : Box) (i : Nat) (x : Four × Nat) : List (Nat × Ob) := [(1, ⟨x.1.a, 7, true, true, [encBox b]⟩), (2, ⟨x.1.b, 7, true, true, [bzero]⟩), (3, ⟨x.2, 7, true, true, [[I b.gid, S b.name, I b.time, I b.who, I b.next, .row 7 x.1.c 0 i, ints b.gone]]⟩), (7, ⟨x.1.c, 4, true, false, (b.mails.take i).map encMail⟩)]
def icS (b : Box) (i : Nat) (x : Four × Nat) : St := { t := [(1, .c (.ptr 1 x.1.a 0 0)), (2, .c (.ptr 2 x.1.b 0 0)), (3, .c (.ptr 3 x.2 0 0)), (10, .c (mails b.mails)), (11, .c (I b.mails.length)), (12, .c (I i))], o := icO b i x, n := x.1.d }
def icE (b : Box) (x : Four × Nat) : St := { t := [(1, .c (.ptr 1 x.1.a 0 0)), (2, .c (.ptr 2 x.1.b 0 0)), (3, .c (.ptr 3 x.2 0 0)), (10, .c (mails b.mails)), (11, .c (I b.mails.length)), (12, .c (I b.mails.length)), (13, .c (.bool false))], o := icO b b.mails.length x, n := x.1.d }
theorem take_snoc {α : Type} (l : List α) (i : Nat) (h : i < l.length) : l.take (i + 1) = l.take i ++ [l[i]] := List.take_succ_eq_append_getElem h
theorem impl_copyBox.says (h : impl_copyBox.k M) (b : Box) (hb : BoxIn b) : run M 155 [.a (encBox b)] [] = some (.a (encBoxO b), []) := by
  obtain ⟨h0, k1, k2⟩ := h
  have hm := hb.m
  have h1 := impl_copyInts.says k1 b.gone hb.g
  refine run_code (b := impl_copyBox.m) h0 ⟨b.mails.length + 1, ?_⟩
  obtain ⟨g, hr⟩ := count_loop (f := exC (run M) (b.mails.length + 1) impl_copyBox.l0) b.mails.length (icS b) 0 (icE b)
    (fun i hi x => by
      obtain ⟨⟨v1, v2, v3, n⟩, v4⟩ := x
      have h2 := impl_copyMail.says k2 b.mails[i] (hb.f _ (List.getElem_mem hi))
      have e5 : IntKind.i64.wrap ((i : Int) + 1) = (i : Int) + 1 := wrap_i64 (by omega) (by omega)
      have e6 : i + 1 ≤ 4294967296 := by omega
      have e7 : ((b.mails.take i).map encMail).length = i := by simp; omega
      have e8 : ((b.mails.take (i + 1)).map encMail) = (b.mails.take i).map encMail ++ [encMail b.mails[i]] := by rw [take_snoc _ _ hi, List.map_append]; rfl
      simp only [icS, icO, e8, Prod.exists, Four.ex]
      generalize (b.mails.take i).map encMail = rr at *
      simp only [encMail, encMailO] at h2
      simp (maxSteps := 1000000) [impl_copyBox.l0, List.range_succ, bs_get, setAt, hi, h2, e5, e6, e7, encMail, List.take_of_length_le]
      exact ⟨_, _, _, _, _, ⟨rfl, rfl, rfl⟩, ⟨rfl, rfl, rfl, rfl⟩, rfl⟩)
    (fun x => by
      obtain ⟨⟨v1, v2, v3, n⟩, v4⟩ := x
      simp only [Prod.exists, Four.ex]
      simp (maxSteps := 1000000) [impl_copyBox.l0, List.range_succ, bs_get, setAt, icS, icE, icO]
      exact ⟨_, _, _, _, _, ⟨rfl, rfl, rfl⟩, ⟨rfl, rfl, rfl, rfl⟩, rfl⟩)
  have e7 : (b.mails.map encMail).length = b.mails.length := by simp
  have e8 := irow_length b.gone
  have e9 : b.mails.take b.mails.length = b.mails := by simp
  simp only [ints] at h1
  simp only [icS, icE, icO, e9, List.take_zero, List.map_nil, ints] at hr
  replace hr := fun a b c d n => hr ⟨⟨a, b, c, d⟩, n⟩
  simp only [encBox, encBoxO, mails, ints] at hr ⊢
  generalize b.mails.map encMail = rm at *
  generalize irow b.gone = rg at *
  simp at hr
  simp (maxSteps := 1000000) [exB, impl_copyBox.m, impl_copyBox.b, List.range_succ, bs_get, setAt, hr, h1, e7, e8, List.take_of_length_le]
def scO (b : Box) (i : Nat) (x : Four × Nat) : List (Nat × Ob) := [(1, ⟨x.1.a, 7, true, true, [encBox b]⟩), (2, ⟨x.1.b, 7, true, true, [bzero]⟩), (3, ⟨x.2, 7, true, true, [[I b.gid, S b.name, I b.time, I b.who, I b.next, .row 6 x.1.c 0 i, ints b.gone]]⟩), (6, ⟨x.1.c, 4, true, false, (b.mails.take i).map encMail⟩)]
def scS (b : Box) (i : Nat) (x : Four × Nat) : St := { t := [(1, .c (.ptr 1 x.1.a 0 0)), (2, .c (.ptr 2 x.1.b 0 0)), (3, .c (.ptr 3 x.2 0 0)), (4, .c (I i))], o := scO b i x, n := x.1.d }
def scE (b : Box) (x : Four × Nat) : St := { t := [(1, .c (.ptr 1 x.1.a 0 0)), (2, .c (.ptr 2 x.1.b 0 0)), (3, .c (.ptr 3 x.2 0 0)), (4, .c (I b.mails.length)), (12, .c (.bool false))], o := scO b b.mails.length x, n := x.1.d }
theorem spec_l06Copy.says (h : spec_l06Copy.k M) (b : Box) (hb : BoxIn b) : run M 180 [.a (encBox b)] [] = some (.a (encBoxO b), []) := by
  obtain ⟨h0, k2⟩ := h
  have hm := hb.m
  have hg := hb.g
  refine run_code (b := spec_l06Copy.m) h0 ⟨b.mails.length + 1, ?_⟩
  obtain ⟨g, hr⟩ := count_loop (f := exC (run M) (b.mails.length + 1) spec_l06Copy.l0) b.mails.length (scS b) 0 (scE b)
    (fun i hi x => by
      obtain ⟨⟨v1, v2, v3, n⟩, v4⟩ := x
      have h2 := spec_l05Copy.says k2 b.mails[i] (hb.f _ (List.getElem_mem hi))
      have e5 : IntKind.i64.wrap ((i : Int) + 1) = (i : Int) + 1 := wrap_i64 (by omega) (by omega)
      have e6 : i + 1 ≤ 4294967296 := by omega
      have e7 : ((b.mails.take i).map encMail).length = i := by simp; omega
      have e8 : ((b.mails.take (i + 1)).map encMail) = (b.mails.take i).map encMail ++ [encMail b.mails[i]] := by rw [take_snoc _ _ hi, List.map_append]; rfl
      simp only [scS, scO, e8, Prod.exists, Four.ex]
      generalize (b.mails.take i).map encMail = rr at *
      simp only [encMail, encMailO] at h2
      simp (maxSteps := 1000000) [spec_l06Copy.l0, List.range_succ, bs_get, setAt, hi, h2, e5, e6, e7, encMail, List.take_of_length_le]
      exact ⟨_, _, _, _, _, ⟨rfl, rfl, rfl⟩, ⟨rfl, rfl, rfl, rfl⟩, rfl⟩)
    (fun x => by
      obtain ⟨⟨v1, v2, v3, n⟩, v4⟩ := x
      simp only [Prod.exists, Four.ex]
      simp (maxSteps := 1000000) [spec_l06Copy.l0, List.range_succ, bs_get, setAt, scS, scE, scO]
      exact ⟨_, _, _, _, _, ⟨rfl, rfl, rfl⟩, ⟨rfl, rfl, rfl, rfl⟩, rfl⟩)
  have e7 : (b.mails.map encMail).length = b.mails.length := by simp
  have e8 := irow_length b.gone
  have e9 : b.mails.take b.mails.length = b.mails := by simp
  have e6 : b.gone.length ≤ 4294967296 := by omega
  simp only [scS, scE, scO, e9, List.take_zero, List.map_nil, ints] at hr
  replace hr := fun a b c d n => hr ⟨⟨a, b, c, d⟩, n⟩
  simp only [encBox, encBoxO, mails, ints] at hr ⊢
  generalize b.mails.map encMail = rm at *
  generalize irow b.gone = rg at *
  simp at hr
  simp (maxSteps := 1000000) [exB, spec_l06Copy.m, spec_l06Copy.b, List.range_succ, bs_get, setAt, hr, e6, e7, e8, List.take_of_length_le]
/-! ## flags -/
def bitOf (n : Int) (i : Nat) : Int := n.fdiv ((2 ^ i : Nat) : Int) % 2
theorem and_one (x : Int) : andI .i64 x 1 = x % 2 := by
  unfold andI
  have h1 : (BitVec.ofInt IntKind.i64.bits x &&& BitVec.ofInt IntKind.i64.bits 1).toNat = (x % 2).toNat := by
    change (BitVec.ofInt 64 x &&& BitVec.ofInt 64 1).toNat = (x % 2).toNat
    simp only [BitVec.toNat_and, BitVec.toNat_ofInt]
    have : ((1 : Int) % ((2 ^ 64 : Nat) : Int)).toNat = 1 := by decide
    rw [this, Nat.and_one_is_mod]
    have h2 : (x % ((2 ^ 64 : Nat) : Int)).toNat % 2 = (x % ((2 ^ 64 : Nat) : Int) % 2).toNat := by
      have : 0 ≤ x % ((2 ^ 64 : Nat) : Int) := Int.emod_nonneg _ (by decide)
      omega
    rw [h2]
    congr 1
    have : ((2 ^ 64 : Nat) : Int) = 18446744073709551616 := by decide
    rw [this]; omega
  rw [h1, wrap_i64 (by omega) (by omega)]
  omega
def flagsNew (n t w : Int) : List Reg := [⟨bitOf n 0, t, w⟩, ⟨bitOf n 1, t, w⟩, ⟨bitOf n 2, t, w⟩]
theorem impl_FlagsNew.says (h : impl_FlagsNew.k M) (n t w : Int) : run M 157 [.c (I n), .a [I t, I w]] [] = some (.c (.sl true 3 ((flagsNew n t w).map encReg)), []) := by
  refine run_code (b := impl_FlagsNew.m) h ⟨4, ?_⟩
  have w2 : IntKind.i64.wrap 2 = 2 := wrap_i64 (by omega) (by omega)
  have w3 : IntKind.i64.wrap 3 = 3 := wrap_i64 (by omega) (by omega)
  simp (maxSteps := 1000000) [exB, impl_FlagsNew.m, impl_FlagsNew.b, List.range_succ, bs_get, setAt, loopN, impl_FlagsNew.l0, wrap_one, w2, w3, and_one, flagsNew, encReg, bitOf, IntKind.bits]
theorem tmod_two (x : Int) : (x.tmod 2 = 0) ↔ x % 2 = 0 :=
  ⟨fun h => Int.emod_eq_zero_of_dvd (Int.dvd_of_tmod_eq_zero h), fun h => Int.tmod_eq_zero_of_dvd (Int.dvd_of_emod_eq_zero h)⟩
theorem spec_FlagsNew.says (h : spec_FlagsNew.k M) (n t w : Int) : run M 181 [.c (I n), .a [I t, I w]] [] = some (.c (.sl true 3 ((flagsNew n t w).map encReg)), []) := by
  refine run_code (b := spec_FlagsNew.m) h ⟨4, ?_⟩
  have w2 : IntKind.i64.wrap 2 = 2 := wrap_i64 (by omega) (by omega)
  have w3 : IntKind.i64.wrap 3 = 3 := wrap_i64 (by omega) (by omega)
  have u0 : IntKind.u64.wrap 0 = 0 := by decide
  have u1 : IntKind.u64.wrap 1 = 1 := by decide
  have u2 : IntKind.u64.wrap 2 = 2 := by decide
  have key : ∀ i : Nat, bitOf n i = if (n.fdiv ((2 ^ i : Nat) : Int)).tmod 2 = 0 then 0 else 1 := by
    intro i
    unfold bitOf
    by_cases c : (n.fdiv ((2 ^ i : Nat) : Int)).tmod 2 = 0
    · rw [if_pos c]; exact (tmod_two _).1 c
    · rw [if_neg c]; rw [tmod_two] at c; omega
  have k0 := key 0
  have k1 := key 1
  have k2 := key 2
  by_cases c0 : (n.fdiv ((2 ^ 0 : Nat) : Int)).tmod 2 = 0 <;> by_cases c1 : (n.fdiv ((2 ^ 1 : Nat) : Int)).tmod 2 = 0 <;> by_cases c2 : (n.fdiv ((2 ^ 2 : Nat) : Int)).tmod 2 = 0 <;>
    simp only [c0, c1, c2, if_true, if_false] at k0 k1 k2 <;> simp at c0 c1 c2 <;>
    simp (maxSteps := 1000000) [exB, spec_FlagsNew.m, spec_FlagsNew.b, List.range_succ, bs_get, setAt, loopN, spec_FlagsNew.l0, wrap_one, w2, w3, u0, u1, u2, flagsNew, encReg, k0, k1, k2, c0, c1, c2, IntKind.bits]
end Mx

/-
  What is drawn: a new cursor, places.
-/
namespace Mx
open Go
variable {M : Nat → Option Body}
def byteAt (R : List (List T)) (i : Nat) : Int := match R[i]? with
  | some [.int _ n] => IntKind.i64.wrap n
  | _ => 0
def hAt (R : List (List T)) : Nat → Int
  | 0 => 77201 + R.length
  | i + 1 => andI .i64 (IntKind.i64.wrap (IntKind.i64.wrap (IntKind.i64.wrap (hAt R i * 131) + byteAt R i) + 7)) 1073741823
def lnN (R : List (List T)) : Nat := min R.length 4000
def lnS (R : List (List T)) (i : Nat) (x : Nat) : St := { t := [(0, .c (.sl false 1 R)), (3, .c (I (hAt R i))), (4, .c (I i))], o := [], n := x }
def lnE (R : List (List T)) (x : Nat) : St := { t := [(0, .c (.sl false 1 R)), (3, .c (I (hAt R (lnN R)))), (4, .c (I (lnN R))), (15, .c (.bool false))], o := [], n := x }
theorem spec_l01New.says (h : spec_l01New.k M) {R : List (List T)} (hR : Bytes R) :
    ∃ q : Int, run M 124 [.c (.sl false 1 R)] [] = some (.c (.vp [.sl false 1 R, I 0, I q] 0), []) := by
  refine ⟨hAt R (lnN R), run_code (b := spec_l01New.m) h ⟨lnN R + 1, ?_⟩⟩
  have hl := hR.1
  obtain ⟨g, hr⟩ := count_loop (f := exC (run M) (lnN R + 1) spec_l01New.l0) (lnN R) (lnS R) 0 (lnE R)
    (fun i hi x => by
      have h1 : i < R.length := by unfold lnN at hi; omega
      have h2 : i < 4000 := by unfold lnN at hi; omega
      have h3 : (i : Int) < 4000 := by omega
      obtain ⟨n, hn⟩ := hR.2 i R[i] (List.getElem?_eq_getElem h1)
      have hb : byteAt R i = IntKind.i64.wrap n := by simp [byteAt, h1, hn]
      have e3 : IntKind.i64.wrap ((i : Int) + 1) = (i : Int) + 1 := wrap_i64 (by omega) (by omega)
      simp only [lnS, hAt, hb]
      generalize hAt R i = q
      simp (maxSteps := 1000000) [spec_l01New.l0, List.range_succ, bs_get, setAt, h1, h2, h3, hn, e3])
    (fun x => by
      simp only [lnS, lnE]
      generalize hAt R (lnN R) = q
      by_cases c : R.length < 4000
      · have e : lnN R = R.length := by unfold lnN; omega
        rw [e]
        simp (maxSteps := 1000000) [spec_l01New.l0, List.range_succ, bs_get, setAt]
      · have e : lnN R = 4000 := by unfold lnN; omega
        rw [e]
        simp only [Int.cast_ofNat_Int]
        by_cases c2 : 4000 < R.length
        · have c3 : (4000 : Int) < (R.length : Int) := by omega
          simp (maxSteps := 1000000) [spec_l01New.l0, List.range_succ, bs_get, setAt, c2, c3]
        · have c3 : ¬ (4000 : Int) < (R.length : Int) := by omega
          simp (maxSteps := 1000000) [spec_l01New.l0, List.range_succ, bs_get, setAt, c2, c3])
  simp only [lnS, lnE, hAt] at hr
  generalize hAt R (lnN R) = q at *
  simp at hr
  have e : IntKind.i64.wrap (77201 + (R.length : Int)) = 77201 + (R.length : Int) := wrap_i64 (by omega) (by omega)
  simp (maxSteps := 1000000) [exB, spec_l01New.m, spec_l01New.b, List.range_succ, bs_get, setAt, hr, e]
end Mx

/-
  What is drawn: places.
-/
namespace Mx
open Go
variable {M : Nat → Option Body}
/-- a loop whose rounds are told by an invariant alone -/
theorem loop_ex {σ : Type} {f : St → Option (Out × St)} (S : σ → St) (Inv : σ → Prop) (μ : σ → Nat) (Post : Out × St → Prop)
    (h : ∀ s, Inv s → (∃ s', f (S s) = some (.normal, S s') ∧ Inv s' ∧ μ s' < μ s) ∨ (∃ r, f (S s) = some r ∧ r.1 ≠ .normal ∧ Post r)) :
    ∀ m s, Inv s → μ s < m → ∃ r, loopN f m (S s) = some r ∧ Post r
  | 0, s, _, hm => by omega
  | m + 1, s, hi, hm => by
    rcases h s hi with ⟨s', h1, h2, h3⟩ | ⟨⟨o, r⟩, h1, h2, h3⟩
    · obtain ⟨r, q1, q2⟩ := loop_ex S Inv μ Post h m s' h2 (by omega)
      exact ⟨r, by simp only [loopN, h1]; exact q1, q2⟩
    · refine ⟨(o, r), ?_, h3⟩
      simp only [loopN, h1]
      cases o with
      | normal => exact (h2 rfl).elim
      | _ => rfl
structure PlS where
  i : Nat
  rows : List (List T)
  v : Nat
  vc : Nat
  ic : Nat
  q : Int
  n : Nat
theorem PlS.ex {p : PlS → Prop} : (∃ s, p s) ↔ ∃ i rows v vc ic q n, p ⟨i, rows, v, vc, ic, q, n⟩ := ⟨fun ⟨⟨i, rows, v, vc, ic, q, n⟩, h⟩ => ⟨i, rows, v, vc, ic, q, n, h⟩, fun ⟨i, rows, v, vc, ic, q, n, h⟩ => ⟨⟨i, rows, v, vc, ic, q, n⟩, h⟩⟩
def plO (R : List (List T)) (s : PlS) : List (Nat × Ob) := [(10, ⟨s.v, 1, true, false, s.rows⟩), (10700, ⟨s.vc, 3, true, true, [[.sl false 1 R, I s.ic, I s.q]]⟩)]
def plS (R : List (List T)) (s : PlS) : St := { t := [(3, .c (.ptr 10700 s.vc 0 0)), (4, .c (.row 10 s.v 0 s.i)), (5, .c (I s.i))], o := plO R s, n := s.n }
def plE (R : List (List T)) (s : PlS) : St := { t := [(3, .c (.ptr 10700 s.vc 0 0)), (4, .c (.row 10 s.v 0 s.i)), (5, .c (I s.i)), (12, .c (.bool false))], o := plO R s, n := s.n }
structure PlI (R : List (List T)) (s : PlS) : Prop where
  i : s.i ≤ 12
  l : s.rows.length = s.i
  r : ∀ r ∈ s.rows, ∃ x : Nat, x < 10000 ∧ r = [I x]
  c : s.ic ≤ R.length
theorem pl_turn (hb : spec_l01Below.k M) {R : List (List T)} (hR : Bytes R) (k : Nat) (s : PlS) (hs : PlI R s) :
    (∃ s', exC (run M) k spec_DrawPlaces.l0 (plS R s) = some (.normal, plS R s') ∧ PlI R s' ∧ 12 - s'.i < 12 - s.i) ∨
      (∃ r, exC (run M) k spec_DrawPlaces.l0 (plS R s) = some r ∧ r.1 ≠ .normal ∧ ∃ s', r = (.exit 0, plE R s') ∧ s'.i = 12 ∧ PlI R s') := by
  obtain ⟨i, rows, v, vc, ic, q, n⟩ := s
  obtain ⟨hi, hl, hr, hc⟩ := hs
  simp only at hi hl hr hc
  obtain ⟨x, ic', q', hx, hic, h1⟩ := spec_l01Below.says hb hR ic q hc 10000 (by omega) (by omega)
  simp only [Int.cast_ofNat_Int] at h1
  by_cases hlt : i < 12
  · left
    have hlt2 : (i : Int) < 12 := by omega
    have e3 : IntKind.i64.wrap ((i : Int) + 1) = (i : Int) + 1 := wrap_i64 (by omega) (by omega)
    have e4 : rows.take i = rows := List.take_of_length_le (by omega)
    have e5 : i + 1 ≤ 4294967296 := by omega
    have e6 : i ≤ rows.length := by omega
    have hh : ∃ v' n', exC (run M) k spec_DrawPlaces.l0 (plS R ⟨i, rows, v, vc, ic, q, n⟩) = some (.normal, plS R ⟨i + 1, rows ++ [[I x]], v', vc, ic', q', n'⟩) := by
      simp only [plS, plO]
      simp (maxSteps := 1000000) [spec_DrawPlaces.l0, List.range_succ, bs_get, setAt, h1, hl, hlt, hlt2, e3, e4, e5, e6]
    obtain ⟨v', n', hh⟩ := hh
    refine ⟨_, hh, ⟨by simp only; omega, by simp [hl], fun r hr' => ?_, hic⟩, by simp only; omega⟩
    rcases List.mem_append.1 hr' with h | h
    · exact hr r h
    · simp only [List.mem_singleton] at h
      exact ⟨x, hx, h⟩
  · right
    have hlt2 : ¬ (i : Int) < 12 := by omega
    refine ⟨(.exit 0, plE R ⟨i, rows, v, vc, ic, q, n + 32⟩), ?_, by simp, ⟨i, rows, v, vc, ic, q, n + 32⟩, rfl, by simp only; omega, ⟨hi, hl, hr, hc⟩⟩
    simp only [plS, plE, plO]
    simp (maxSteps := 1000000) [spec_DrawPlaces.l0, List.range_succ, bs_get, setAt, hlt, hlt2]
theorem spec_DrawPlaces.says (h : spec_DrawPlaces.k M) {R : List (List T)} (hR : Bytes R) :
    ∃ rows : List (List T), rows.length = 12 ∧ (∀ r ∈ rows, ∃ x : Nat, x < 10000 ∧ r = [I x]) ∧ run M 40 [.c (.sl false 1 R)] [] = some (.c (.sl true 1 rows), []) := by
  obtain ⟨h0, k1, k2, k3⟩ := h
  obtain ⟨q0, h1⟩ := spec_l01New.says k1 hR
  obtain ⟨x, ic, q, hx, hic, h2⟩ := spec_l01Byte.says k3 hR 0 q0 (Nat.zero_le _)
  obtain ⟨r, hr, ⟨⟨i, rows, v, vc, ic', q', n⟩, rfl, hi, hI⟩⟩ := loop_ex (f := exC (run M) 13 spec_DrawPlaces.l0) (plS R) (PlI R) (fun s => 12 - s.i) (fun r => ∃ s', r = (.exit 0, plE R s') ∧ s'.i = 12 ∧ PlI R s')
    (fun s hs => pl_turn k2 hR 13 s hs) 13 ⟨0, [], 2000096, 2000032, ic, q, 2000144⟩ ⟨by simp, by simp, by simp, hic⟩ (by simp)
  obtain ⟨_, hl, hr', _⟩ := hI
  simp only at hi hl hr'
  refine ⟨rows, by omega, hr', run_code (b := spec_DrawPlaces.m) h0 ⟨13, ?_⟩⟩
  have e : rows.take i = rows := List.take_of_length_le (by omega)
  have e2 : i ≤ rows.length := by omega
  simp only [plS, plE, plO] at hr
  simp at hr
  have e0 : ((0 : Nat) : Int) = 0 := rfl
  simp only [curD, e0] at h2
  simp (maxSteps := 1000000) [exB, spec_DrawPlaces.m, spec_DrawPlaces.b, List.range_succ, bs_get, setAt, hr, h1, h2, e, e2]
end Mx

/-
  What the two KeepsUid answer, and their law.
-/
namespace Mx
open Go
variable {M : Nat → Option Body}
def uidAt (l : List Mail) (i : Nat) : Int := match l[i]? with | some m => m.uid | none => 0
def keepsUid (a b : Box) (g : Int) : Bool := match mailO a.mails g with
  | none => false
  | some i => match mailO b.mails g with
    | some k => decide (uidAt a.mails i = uidAt b.mails k)
    | none => decide (b.next ≤ uidAt a.mails i)
theorem spec_KeepsUid.says (h : spec_KeepsUid.k M) (a b : Box) (g : Int) (ha : a.mails.length ≤ 1048576) (hb : b.mails.length ≤ 1048576) : run M 22 [.a (encBox a), .a (encBox b), .c (I g)] [] = some (.c (.bool (keepsUid a b g)), []) := by
  have h1 := spec_MailAt.says h.2 a g ha
  have h2 := spec_MailAt.says h.2 b g hb
  refine run_code (b := spec_KeepsUid.m) h.1 ⟨0, ?_⟩
  simp only [encBox] at h1 h2
  unfold keepsUid
  cases hi : mailO a.mails g with
  | none =>
    simp [hi, intO] at h1
    simp [exB, spec_KeepsUid.m, spec_KeepsUid.b, List.range_succ, h1]
  | some i =>
    have li := atO_lt _ _ _ _ _ hi
    simp [hi, intO] at h1
    have di : ¬ (i : Int) < 0 := by omega
    have ui : uidAt a.mails i = a.mails[i].uid := by simp [uidAt, li]
    cases hk : mailO b.mails g with
    | none =>
      simp [hk, intO] at h2
      simp [exB, spec_KeepsUid.m, spec_KeepsUid.b, List.range_succ, h1, h2, di, li, ui, encMail]
    | some k =>
      have lk := atO_lt _ _ _ _ _ hk
      have uk : uidAt b.mails k = b.mails[k].uid := by simp [uidAt, lk]
      simp [hk, intO] at h2
      simp [exB, spec_KeepsUid.m, spec_KeepsUid.b, List.range_succ, h1, h2, di, li, ui, lk, uk, encMail]
theorem impl_KeepsUid.says (h : impl_KeepsUid.k M) (a b : Box) (g : Int) (ha : a.mails.length ≤ 1048576) (hb : b.mails.length ≤ 1048576) : run M 23 [.a (encBox a), .a (encBox b), .c (I g)] [] = some (.c (.bool (keepsUid a b g)), []) := by
  have h1 := impl_MailAt.says h.2 a g ha
  have h2 := impl_MailAt.says h.2 b g hb
  refine run_code (b := impl_KeepsUid.m) h.1 ⟨0, ?_⟩
  simp only [encBox] at h1 h2
  unfold keepsUid
  cases hi : mailO a.mails g with
  | none =>
    simp [hi, intO] at h1
    simp [exB, impl_KeepsUid.m, impl_KeepsUid.b, List.range_succ, h1, h2]
  | some i =>
    have li := atO_lt _ _ _ _ _ hi
    simp [hi, intO] at h1
    have di : ¬ (i : Int) < 0 := by omega
    have ui : uidAt a.mails i = a.mails[i].uid := by simp [uidAt, li]
    cases hk : mailO b.mails g with
    | none =>
      simp [hk, intO] at h2
      simp [exB, impl_KeepsUid.m, impl_KeepsUid.b, List.range_succ, h1, h2, di, li, ui, encMail]
    | some k =>
      have lk := atO_lt _ _ _ _ _ hk
      have uk : uidAt b.mails k = b.mails[k].uid := by simp [uidAt, lk]
      simp [hk, intO] at h2
      by_cases c : a.mails[i].uid = b.mails[k].uid
      · simp [exB, impl_KeepsUid.m, impl_KeepsUid.b, List.range_succ, h1, h2, di, li, ui, lk, uk, encMail, c]
      · have c' : ¬ b.mails[k].uid = a.mails[i].uid := fun q => c q.symm
        simp [exB, impl_KeepsUid.m, impl_KeepsUid.b, List.range_succ, h1, h2, di, li, ui, lk, uk, encMail, c, c']
theorem laws_FnExactKeepsUid.says (h : laws_FnExactKeepsUid.k M) (a b : Box) (g : Int) (ha : BoxFits a) (hb : BoxFits b) : run M 366 [.a (encBox a), .a (encBox b), .c (I g)] [] = some (.c (.bool true), []) := by
  obtain ⟨h0, k1, k2, k3, k4, k5⟩ := h
  have h1 := laws_szBox.says k1 a ha 1048576 (by omega)
  refine run_code (b := laws_FnExactKeepsUid.m) h0 ⟨0, ?_⟩
  by_cases c : 1048576 < wBox a
  · rw [if_pos c] at h1
    simp only [Int.cast_ofNat_Int] at h1
    simp [exB, laws_FnExactKeepsUid.m, laws_FnExactKeepsUid.b, List.range_succ, h1]
  rw [if_neg c] at h1
  simp only [Int.cast_ofNat_Int] at h1
  have hw : wBox a ≤ 1048576 := by omega
  have e1 : ¬ (1048576 : Int) - wBox a < 0 := by omega
  have h1' := laws_szBox.says k1 b hb (1048576 - wBox a) (by omega)
  rw [show ((1048576 - wBox a : Nat) : Int) = 1048576 - (wBox a : Int) by omega] at h1'
  by_cases c2 : 1048576 - wBox a < wBox b
  · rw [if_pos c2] at h1'
    simp only [encBox] at h1 h1'
    simp [exB, laws_FnExactKeepsUid.m, laws_FnExactKeepsUid.b, List.range_succ, h1, h1', e1]
  rw [if_neg c2] at h1'
  have hw2 : wBox b ≤ 1048576 := by omega
  have e2 : ¬ (1048576 : Int) - wBox a - wBox b < 0 := by omega
  have h2 := laws_toBox.says k2 a hw
  have h2' := laws_toBox.says k2 b hw2
  have h3 := spec_KeepsUid.says k4 a b g (wBox_mails hw) (wBox_mails hw2)
  have h4 := impl_KeepsUid.says k5 a b g (wBox_mails hw) (wBox_mails hw2)
  have h5 := laws_eqBox.says k3 a hw
  have h5' := laws_eqBox.says k3 b hw2
  simp only [encBox, encBoxO] at h1 h1' h2 h2' h3 h4 h5 h5'
  simp (maxSteps := 1000000) [exB, laws_FnExactKeepsUid.m, laws_FnExactKeepsUid.b, List.range_succ, h1, h1', h2, h2', h3, h4, h5, h5', e1, e2, setAt, List.take_of_length_le]
theorem laws_FnExactKeepsUid.row (h : laws_FnExactKeepsUid.k M) {as : List V} (ha : HasVs [.struct ctBox, .struct ctBox, .cell (.int .i64)] as) : run M 366 as [] = some (.c (.bool true), []) := by
  cases ha with | cons h0 ha =>
  cases ha with | cons h1 ha =>
  cases ha with | cons h2 ha =>
  cases ha
  cases h0 with | struct h0 =>
  cases h1 with | struct h1 =>
  cases h2 with | cell h2 =>
  obtain ⟨a, rfl, ha⟩ := has_box h0
  obtain ⟨b, rfl, hb⟩ := has_box h1
  obtain ⟨g, rfl⟩ := has_int h2
  exact laws_FnExactKeepsUid.says h a b g ha hb
end Mx

/-
  What two boxes come to, in plain lists: this side's way and the other's.
-/
namespace Mx
open Go
/-! ## sorting by a key, the first of equals first -/
def insBy {α : Type} (k : α → Int) (acc : List α) (m : α) : List α := acc.filter (fun x => decide (k x ≤ k m)) ++ [m] ++ acc.filter (fun x => decide (k m < k x))
def sortBy {α : Type} (k : α → Int) (l : List α) : List α := l.foldl (insBy k) []
abbrev SortedBy {α : Type} (k : α → Int) (l : List α) : Prop := l.Pairwise fun x y => k x ≤ k y
theorem insBy_mem {α : Type} {k : α → Int} {acc : List α} {m z : α} : z ∈ insBy k acc m ↔ z = m ∨ z ∈ acc := by
  simp only [insBy, List.mem_append, List.mem_filter, decide_eq_true_eq, List.mem_singleton]
  constructor
  · rintro ((⟨h, _⟩ | h) | ⟨h, _⟩)
    · exact .inr h
    · exact .inl h
    · exact .inr h
  · rintro (h | h)
    · exact .inl (.inr h)
    · by_cases c : k z ≤ k m
      · exact .inl (.inl ⟨h, c⟩)
      · exact .inr ⟨h, by omega⟩
theorem insBy_sorted {α : Type} {k : α → Int} {acc : List α} {m : α} (h : SortedBy k acc) : SortedBy k (insBy k acc m) := by
  simp only [insBy, SortedBy, List.pairwise_append, List.pairwise_singleton, List.mem_filter, decide_eq_true_eq, List.mem_singleton, List.mem_append]
  refine ⟨⟨h.filter _, trivial, ?_⟩, h.filter _, ?_⟩
  · rintro a ⟨_, ha⟩ b rfl; exact ha
  · rintro a (⟨_, ha⟩ | rfl) b ⟨_, hb⟩ <;> omega
theorem insBy_perm {α : Type} {k : α → Int} (acc : List α) (m : α) : (insBy k acc m).Perm (m :: acc) := by
  have : ∀ l : List α, (l.filter (fun x => decide (k x ≤ k m)) ++ l.filter (fun x => decide (k m < k x))).Perm l := by
    intro l
    have h := List.filter_append_perm (fun x => decide (k x ≤ k m)) l
    have e : (fun x => !decide (k x ≤ k m)) = fun x => decide (k m < k x) := by
      funext x; rw [Bool.eq_iff_iff]; simp
    rwa [e] at h
  refine List.Perm.trans ?_ ((this acc).cons m)
  unfold insBy
  rw [List.append_assoc]
  exact List.perm_middle
theorem foldBy_perm {α : Type} {k : α → Int} : ∀ (l acc : List α), (l.foldl (insBy k) acc).Perm (l ++ acc)
  | [], acc => List.Perm.refl _
  | x :: l, acc => by
    refine (foldBy_perm l (insBy k acc x)).trans ?_
    refine ((insBy_perm acc x).append_left l).trans ?_
    exact List.perm_middle
theorem foldBy_sorted {α : Type} {k : α → Int} : ∀ (l acc : List α), SortedBy k acc → SortedBy k (l.foldl (insBy k) acc)
  | [], acc, h => h
  | x :: l, acc, h => foldBy_sorted l _ (insBy_sorted h)
theorem sortBy_perm {α : Type} {k : α → Int} (l : List α) : (sortBy k l).Perm l := by unfold sortBy; simpa using foldBy_perm (k := k) l []
theorem sortBy_sorted {α : Type} {k : α → Int} (l : List α) : SortedBy k (sortBy k l) := foldBy_sorted l [] List.Pairwise.nil
theorem sortBy_mem {α : Type} {k : α → Int} {l : List α} {z : α} : z ∈ sortBy k l ↔ z ∈ l := (sortBy_perm l).mem_iff
theorem sortBy_len {α : Type} {k : α → Int} (l : List α) : (sortBy k l).length = l.length := (sortBy_perm l).length_eq
/-- ascending by a key, and the same things: the same -/
abbrev AscBy {α : Type} (k : α → Int) (l : List α) : Prop := l.Pairwise fun x y => k x < k y
theorem ascBy_ext {α : Type} {k : α → Int} : ∀ {a b : List α}, AscBy k a → AscBy k b → (∀ x, x ∈ a ↔ x ∈ b) → a = b
  | [], [], _, _, _ => rfl
  | [], y :: b, _, _, h => absurd ((h y).2 (List.mem_cons_self ..)) (by simp)
  | x :: a, [], _, _, h => absurd ((h x).1 (List.mem_cons_self ..)) (by simp)
  | x :: a, y :: b, ha, hb, h => by
    obtain ⟨ha1, ha2⟩ := List.pairwise_cons.1 ha
    obtain ⟨hb1, hb2⟩ := List.pairwise_cons.1 hb
    have e : x = y := by
      rcases List.mem_cons.1 ((h x).1 (List.mem_cons_self ..)) with q | q
      · exact q
      · rcases List.mem_cons.1 ((h y).2 (List.mem_cons_self ..)) with q' | q'
        · exact q'.symm
        · have := ha1 y q'; have := hb1 x q; omega
    subst e
    congr 1
    refine ascBy_ext ha2 hb2 fun z => ⟨fun hz => ?_, fun hz => ?_⟩
    · rcases List.mem_cons.1 ((h z).1 (List.mem_cons_of_mem _ hz)) with q | q
      · have := ha1 z hz; rw [q] at this; omega
      · exact q
    · rcases List.mem_cons.1 ((h z).2 (List.mem_cons_of_mem _ hz)) with q | q
      · have := hb1 z hz; rw [q] at this; omega
      · exact q
theorem asc_of_sorted {α : Type} {k : α → Int} : ∀ {l : List α}, SortedBy k l → (l.map k).Nodup → AscBy k l
  | [], _, _ => List.Pairwise.nil
  | x :: l, h, hn => by
    obtain ⟨h1, h2⟩ := List.pairwise_cons.1 h
    rw [List.map_cons, List.nodup_cons] at hn
    refine List.pairwise_cons.2 ⟨fun y hy => ?_, asc_of_sorted h2 hn.2⟩
    have := h1 y hy
    have : k x ≠ k y := fun e => hn.1 (by rw [e]; exact List.mem_map_of_mem hy)
    omega

/-! ## registers, flags, mails -/
def later (t w u x : Int) : Bool := decide (u < t) || (decide (t = u) && decide (x < w))
def joinReg (a b : Reg) : Reg := if later b.time b.who a.time a.who = true ∨ later a.time a.who b.time b.who = false ∧ a.val < b.val then b else a
def joinFlags (a b : List Reg) : List Reg := List.zipWith joinReg a b
def maxT (a b : List UInt8) : List UInt8 := if bless a b = true then b else a
def joinMail (a b : Mail) : Mail := if a.gid = b.gid then ⟨a.gid, Max.max a.uid b.uid, joinFlags a.flags b.flags, maxT a.text b.text⟩ else a
def mailIn (l : List Mail) (g : Int) : Option Mail := l.find? fun m => decide (m.gid = g)
theorem mailIn_some {l : List Mail} {g : Int} {m : Mail} (h : mailIn l g = some m) : m ∈ l ∧ m.gid = g := ⟨List.mem_of_find?_eq_some h, by simpa using List.find?_some h⟩
theorem mailIn_none {l : List Mail} {g : Int} : mailIn l g = none ↔ ∀ m ∈ l, m.gid ≠ g := by
  unfold mailIn; rw [List.find?_eq_none]; simp
theorem mailIn_mem {l : List Mail} (h : (l.map (·.gid)).Nodup) {m : Mail} (hm : m ∈ l) : mailIn l m.gid = some m := by
  induction l with
  | nil => simp at hm
  | cons x l ih =>
    rw [List.map_cons, List.nodup_cons] at h
    unfold mailIn at ih ⊢
    rw [List.find?_cons]
    rcases List.mem_cons.1 hm with rfl | hm
    · simp
    · have : x.gid ≠ m.gid := fun e => h.1 (by rw [e]; exact List.mem_map_of_mem hm)
      simp only [this, decide_false]
      exact ih h.2 hm
/-! ## boxes -/
def gids (l : List Mail) : List Int := l.map (·.gid)
def joinM (a b : List Mail) (g : Int) : Mail := match mailIn a g, mailIn b g with
  | some x, some y => joinMail x y
  | some x, none => x
  | none, some y => y
  | none, none => ⟨0, 0, [], []⟩
def needs (a b : Box) (g : Int) : Bool := (holds a g && !keepsUid a b g) || (holds b g && !keepsUid b a g)
def stepJ (a b : Box) (s : List Mail × Int) (g : Int) : List Mail × Int :=
  if g ∈ a.gone ∨ g ∈ b.gone then s else
  if needs a b g = true then (insBy (·.uid) s.1 { joinM a.mails b.mails g with uid := s.2 }, s.2 + 1) else (insBy (·.uid) s.1 (joinM a.mails b.mails g), s.2)
/-- the other side's way -/
def joinedS (a b : Box) : List Mail × Int := (joinGone (gids a.mails) (gids b.mails)).foldl (stepJ a b) ([], Max.max a.next b.next)
/-- this side's way -/
def allM (a b : List Mail) : List Mail := a.map (fun m => match mailIn b m.gid with | some y => joinMail m y | none => m) ++ b.filter (fun m => (mailIn a m.gid).isNone)
def assignU (need : Int → Bool) : Int → List Mail → List Mail × Int
  | n, [] => ([], n)
  | n, m :: l => if need m.gid = true then ({ m with uid := n } :: (assignU need (n + 1) l).1, (assignU need (n + 1) l).2) else (m :: (assignU need n l).1, (assignU need n l).2)
def joinedI (a b : Box) : List Mail × Int :=
  let l := assignU (needs a b) (Max.max a.next b.next) (sortBy (·.gid) ((allM a.mails b.mails).filter fun m => !decide (m.gid ∈ joinGone a.gone b.gone)))
  (sortBy (·.uid) l.1, l.2)
theorem joinMail_gid (a b : Mail) : (joinMail a b).gid = a.gid := by unfold joinMail; split <;> rfl
theorem joinM_gid {a b : List Mail} {g : Int} (h : g ∈ gids a ∨ g ∈ gids b) : (joinM a b g).gid = g := by
  unfold joinM
  cases h1 : mailIn a g with
  | some x =>
    cases h2 : mailIn b g with
    | some y => simp only [joinMail_gid]; exact (mailIn_some h1).2
    | none => exact (mailIn_some h1).2
  | none =>
    cases h2 : mailIn b g with
    | some y => exact (mailIn_some h2).2
    | none =>
      exfalso
      rw [mailIn_none] at h1 h2
      rcases h with h | h
      · obtain ⟨m, hm, e⟩ := List.mem_map.1 h; exact h1 m hm e
      · obtain ⟨m, hm, e⟩ := List.mem_map.1 h; exact h2 m hm e
theorem allM_mem {a b : List Mail} (ha : (gids a).Nodup) (hb : (gids b).Nodup) {m : Mail} : m ∈ allM a b ↔ (m.gid ∈ gids a ∨ m.gid ∈ gids b) ∧ m = joinM a b m.gid := by
  simp only [allM, List.mem_append, List.mem_map, List.mem_filter]
  constructor
  · rintro (⟨x, hx, rfl⟩ | ⟨hm, hn⟩)
    · have h1 := mailIn_mem ha hx
      have hg : x.gid ∈ gids a := List.mem_map_of_mem hx
      cases h2 : mailIn b x.gid with
      | some y =>
        simp only [joinMail_gid]
        refine ⟨.inl hg, ?_⟩
        simp only [joinM, h1, h2]
      | none =>
        simp only
        refine ⟨.inl hg, ?_⟩
        simp only [joinM, h1, h2]
    · have h1 := mailIn_mem hb hm
      simp only [Option.isNone_iff_eq_none] at hn
      refine ⟨.inr (List.mem_map_of_mem hm), ?_⟩
      simp only [joinM, h1, hn]
  · rintro ⟨h, e⟩
    cases h1 : mailIn a m.gid with
    | some x =>
      left
      obtain ⟨k1, k2⟩ := mailIn_some h1
      refine ⟨x, k1, ?_⟩
      rw [e, k2]
      simp only [joinM, h1]
      cases h2 : mailIn b m.gid <;> rfl
    | none =>
      right
      cases h2 : mailIn b m.gid with
      | none =>
        exfalso
        rw [mailIn_none] at h1 h2
        rcases h with h | h
        · obtain ⟨m', hm, e⟩ := List.mem_map.1 h; exact h1 m' hm e
        · obtain ⟨m', hm, e⟩ := List.mem_map.1 h; exact h2 m' hm e
      | some y =>
        refine ⟨?_, by simp⟩
        have : m = y := by rw [e]; simp only [joinM, h1, h2]
        rw [this]; exact (mailIn_some h2).1
theorem allM_nodup {a b : List Mail} (ha : (gids a).Nodup) (hb : (gids b).Nodup) : (gids (allM a b)).Nodup := by
  have e1 : gids (a.map (fun m => match mailIn b m.gid with | some y => joinMail m y | none => m)) = gids a := by
    unfold gids; rw [List.map_map]
    apply List.map_congr_left
    intro m _
    simp only [Function.comp]
    split
    · exact joinMail_gid _ _
    · rfl
  unfold allM
  rw [gids, List.map_append]
  change (gids _ ++ gids _).Nodup
  rw [e1, List.nodup_append]
  refine ⟨ha, ?_, ?_⟩
  · exact hb.sublist (List.Sublist.map _ List.filter_sublist)
  · intro x hx y hy e
    subst e
    obtain ⟨m, hm, rfl⟩ := List.mem_map.1 hy
    rw [List.mem_filter] at hm
    simp only [Option.isNone_iff_eq_none, mailIn_none] at hm
    obtain ⟨m', hm', e⟩ := List.mem_map.1 hx
    exact hm.2 m' hm' e
theorem srt_eq {a b : Box} (ha : (gids a.mails).Nodup) (hb : (gids b.mails).Nodup) :
    sortBy (·.gid) ((allM a.mails b.mails).filter fun m => !decide (m.gid ∈ joinGone a.gone b.gone)) = ((joinGone (gids a.mails) (gids b.mails)).filter fun g => !decide (g ∈ joinGone a.gone b.gone)).map (joinM a.mails b.mails) := by
  refine ascBy_ext (k := fun m : Mail => m.gid) ?_ ?_ fun m => ?_
  · refine asc_of_sorted (sortBy_sorted _) ?_
    have hp := (sortBy_perm (k := fun m : Mail => m.gid) ((allM a.mails b.mails).filter fun m => !decide (m.gid ∈ joinGone a.gone b.gone))).map (fun m : Mail => m.gid)
    rw [hp.nodup_iff]
    exact (allM_nodup ha hb).sublist (List.Sublist.map _ List.filter_sublist)
  · rw [AscBy, List.pairwise_map]
    have h := (joinGone_asc (gids a.mails) (gids b.mails)).filter (fun g => !decide (g ∈ joinGone a.gone b.gone))
    refine List.Pairwise.imp_of_mem ?_ h
    intro x y hx hy hxy
    rw [List.mem_filter, joinGone_mem] at hx hy
    rw [joinM_gid hx.1, joinM_gid hy.1]
    exact hxy
  · rw [sortBy_mem, List.mem_filter, allM_mem ha hb, List.mem_map]
    constructor
    · rintro ⟨⟨h1, h2⟩, h3⟩
      exact ⟨m.gid, List.mem_filter.2 ⟨(joinGone_mem _ _ _).2 h1, h3⟩, h2.symm⟩
    · rintro ⟨g, hg, rfl⟩
      rw [List.mem_filter, joinGone_mem] at hg
      have := joinM_gid hg.1
      rw [this]
      exact ⟨⟨hg.1, rfl⟩, hg.2⟩
theorem fold_assign (a b : Box) : ∀ (gs : List Int) (acc : List Mail) (n : Int), (∀ g ∈ gs, g ∈ gids a.mails ∨ g ∈ gids b.mails) →
    gs.foldl (stepJ a b) (acc, n) = ((assignU (needs a b) n ((gs.filter fun g => !decide (g ∈ joinGone a.gone b.gone)).map (joinM a.mails b.mails))).1.foldl (insBy (·.uid)) acc, (assignU (needs a b) n ((gs.filter fun g => !decide (g ∈ joinGone a.gone b.gone)).map (joinM a.mails b.mails))).2)
  | [], acc, n, _ => by simp [assignU]
  | g :: gs, acc, n, h => by
    have ih := fun acc n => fold_assign a b gs acc n fun g hg => h g (List.mem_cons_of_mem _ hg)
    have hg := joinM_gid (h g (List.mem_cons_self ..))
    rw [List.foldl_cons, stepJ, List.filter_cons]
    by_cases c : g ∈ a.gone ∨ g ∈ b.gone
    · have c' : g ∈ joinGone a.gone b.gone := (joinGone_mem _ _ _).2 c
      rw [if_pos c, ih]
      simp [c']
    · have c' : ¬ g ∈ joinGone a.gone b.gone := fun q => c ((joinGone_mem _ _ _).1 q)
      rw [if_neg c]
      simp only [c', decide_false, Bool.not_false, if_true, List.map_cons, assignU, hg]
      by_cases c2 : needs a b g = true
      · rw [if_pos c2, if_pos c2, ih]; rfl
      · rw [if_neg c2, if_neg c2, ih]; rfl
theorem joined_eq {a b : Box} (ha : (gids a.mails).Nodup) (hb : (gids b.mails).Nodup) : joinedI a b = joinedS a b := by
  unfold joinedI joinedS
  rw [srt_eq ha hb, fold_assign a b _ _ _ fun g hg => (joinGone_mem _ _ _).1 hg]
  rfl
/-- what two boxes come to -/
def joinBox (a b : Box) : Box := if a.gid = b.gid then
    { gid := a.gid, name := if later b.time b.who a.time a.who = true ∨ later a.time a.who b.time b.who = false ∧ bless a.name b.name = true then b.name else a.name,
      time := if later b.time b.who a.time a.who = true ∨ later a.time a.who b.time b.who = false ∧ bless a.name b.name = true then b.time else a.time,
      who := if later b.time b.who a.time a.who = true ∨ later a.time a.who b.time b.who = false ∧ bless a.name b.name = true then b.who else a.who,
      next := (joinedS a b).2, mails := (joinedS a b).1, gone := joinGone a.gone b.gone } else a
end Mx

/-
  What is done in boxes: registers, flags set.
-/
namespace Mx
open Go
variable {M : Nat → Option Body}
theorem impl_Later.says (h : impl_Later.k M) (t w u x : Int) : run M 275 [.a [I t, I w], .a [I u, I x]] [] = some (.c (.bool (later t w u x)), []) := by
  refine run_code (b := impl_Later.m) h ⟨0, ?_⟩
  unfold later
  by_cases c1 : u < t
  · simp (maxSteps := 1000000) [exB, impl_Later.m, impl_Later.b, List.range_succ, bs_get, setAt, c1]
  by_cases c2 : t = u
  · subst c2; simp (maxSteps := 1000000) [exB, impl_Later.m, impl_Later.b, List.range_succ, bs_get, setAt]
  · simp (maxSteps := 1000000) [exB, impl_Later.m, impl_Later.b, List.range_succ, bs_get, setAt, c1, c2]
theorem spec_Later.says (h : spec_Later.k M) (t w u x : Int) : run M 277 [.a [I t, I w], .a [I u, I x]] [] = some (.c (.bool (later t w u x)), []) := by
  refine run_code (b := spec_Later.m) h ⟨0, ?_⟩
  unfold later
  by_cases c2 : t = u
  · subst c2; simp (maxSteps := 1000000) [exB, spec_Later.m, spec_Later.b, List.range_succ, bs_get, setAt]
  · simp (maxSteps := 1000000) [exB, spec_Later.m, spec_Later.b, List.range_succ, bs_get, setAt, c2]
def putReg (r : Reg) (v t w : Int) : Reg := if later t w r.time r.who = true ∧ regOk ⟨v, t, w⟩ = true then ⟨v, t, w⟩ else r
theorem impl_PutReg.says (h : impl_PutReg.k M) (r : Reg) (v t w : Int) : run M 240 [.a (encReg r), .c (I v), .a [I t, I w]] [] = some (.a (encReg (putReg r v t w)), []) := by
  obtain ⟨h0, k1, k2⟩ := h
  have h1 := impl_RegOk.says k1 ⟨v, t, w⟩
  have h2 := impl_Later.says k2 t w r.time r.who
  refine run_code (b := impl_PutReg.m) h0 ⟨0, ?_⟩
  unfold putReg
  simp only [encReg] at h1
  generalize later t w r.time r.who = a at *
  generalize regOk ⟨v, t, w⟩ = b at *
  cases a <;> cases b <;> simp (maxSteps := 1000000) [exB, impl_PutReg.m, impl_PutReg.b, List.range_succ, bs_get, setAt, h1, h2, encReg]
theorem spec_PutReg.says (h : spec_PutReg.k M) (r : Reg) (v t w : Int) : run M 243 [.a (encReg r), .c (I v), .a [I t, I w]] [] = some (.a (encReg (putReg r v t w)), []) := by
  obtain ⟨h0, k1, k2⟩ := h
  have h1 := spec_RegOk.says k1 ⟨v, t, w⟩
  have h2 := spec_Later.says k2 t w r.time r.who
  refine run_code (b := spec_PutReg.m) h0 ⟨0, ?_⟩
  unfold putReg
  simp only [encReg] at h1
  generalize later t w r.time r.who = a at *
  generalize regOk ⟨v, t, w⟩ = b at *
  cases a <;> cases b <;> simp (maxSteps := 1000000) [exB, spec_PutReg.m, spec_PutReg.b, List.range_succ, bs_get, setAt, h1, h2, encReg]
def setFlag (n t w : Int) (i : Nat) (r : Reg) : Reg := if r.val = bitOf n i then r else putReg r (bitOf n i) t w
def setFlags (l : List Reg) (n t w : Int) : List Reg := if flagsOk l = true ∧ inR 0 n 7 = true then l.mapIdx (setFlag n t w) else l
/-- the first k are set -/
def setTo (l : List Reg) (n t w : Int) (k : Nat) : List Reg := l.mapIdx fun i r => if i < k then setFlag n t w i r else r
theorem setTo_zero (l : List Reg) (n t w : Int) : setTo l n t w 0 = l := by
  unfold setTo; simp [List.mapIdx_eq_iff]
theorem setTo_all (l : List Reg) (n t w : Int) : setTo l n t w l.length = l.mapIdx (setFlag n t w) := by
  unfold setTo
  apply List.ext_getElem
  · simp
  · intro i h1 h2; simp at h1 ⊢; intro h; omega
theorem setTo_len (l : List Reg) (n t w : Int) (k : Nat) : (setTo l n t w k).length = l.length := by simp [setTo]
theorem setTo_at (l : List Reg) (n t w : Int) (k : Nat) (h : k < l.length) : (setTo l n t w k)[k]'(by simpa [setTo] using h) = l[k] := by simp [setTo]
theorem setTo_succ (l : List Reg) (n t w : Int) (k : Nat) (h : k < l.length) : setTo l n t w (k + 1) = (setTo l n t w k).set k (setFlag n t w k l[k]) := by
  unfold setTo
  apply List.ext_getElem
  · simp
  · intro i h1 h2
    simp only [List.getElem_mapIdx, List.getElem_set]
    by_cases c : k = i
    · subst c; simp
    · rw [if_neg c]
      by_cases c2 : i < k
      · rw [if_pos c2, if_pos (by omega)]
      · rw [if_neg c2, if_neg (by omega)]
def sgS (l : List Reg) (n t w : Int) (i : Nat) (x : Nat × Nat × Nat) : St := { t := [(1, .c (I n)), (5, .c (.ptr 5 x.1 0 0)), (7, .c (.row 11200 x.2.1 0 l.length)), (22, .c (.row 11200 x.2.1 0 l.length)), (23, .c (I l.length)), (24, .c (I i))], o := [(5, ⟨x.1, 2, true, true, [[I t, I w]]⟩), (11200, ⟨x.2.1, 3, true, false, (setTo l n t w i).map encReg⟩)], n := x.2.2 }
def sgE (l : List Reg) (n t w : Int) (x : Nat × Nat × Nat) : St := { t := [(1, .c (I n)), (5, .c (.ptr 5 x.1 0 0)), (7, .c (.row 11200 x.2.1 0 l.length)), (22, .c (.row 11200 x.2.1 0 l.length)), (23, .c (I l.length)), (24, .c (I l.length)), (25, .c (.bool false))], o := [(5, ⟨x.1, 2, true, true, [[I t, I w]]⟩), (11200, ⟨x.2.1, 3, true, false, (setTo l n t w l.length).map encReg⟩)], n := x.2.2 }
theorem bitOf_range (n : Int) (i : Nat) : 0 ≤ bitOf n i ∧ bitOf n i ≤ 1 := by unfold bitOf; omega
theorem impl_SetFlags.turn (k : impl_PutReg.k M) (l : List Reg) (n t w : Int) (K i : Nat) (hl : l.length = 3) (hi : i < l.length) (x : Nat × Nat × Nat) :
    ∃ y, exC (run M) K impl_SetFlags.l0 (sgS l n t w i x) = some (.normal, sgS l n t w (i + 1) y) := by
  obtain ⟨v, u, x⟩ := x
  have e5 : IntKind.i64.wrap ((i : Int) + 1) = (i : Int) + 1 := wrap_i64 (by omega) (by omega)
  have h1 := impl_PutReg.says k l[i] (bitOf n i) t w
  have hlen : ((setTo l n t w i).map encReg).length = l.length := by simp [setTo_len]
  have hi2 : i < ((setTo l n t w i).map encReg).length := by omega
  have hat : ((setTo l n t w i).map encReg)[i]'hi2 = encReg l[i] := by rw [List.getElem_map, setTo_at]
  have hat2 : ((setTo l n t w i).map encReg)[i]? = some (encReg l[i]) := by rw [List.getElem?_eq_getElem hi2, hat]
  have hset : (setTo l n t w (i + 1)).map encReg = ((setTo l n t w i).map encReg).set i (encReg (setFlag n t w i l[i])) := by rw [setTo_succ _ _ _ _ _ hi, List.map_set]
  have hb := bitOf_range n i
  have hbit : andI .i64 (n.fdiv ((2 ^ i : Nat) : Int)) 1 = bitOf n i := and_one _
  have hmin : Min.min i 64 = i := by omega
  simp only [sgS, hset, setFlag, Prod.exists]
  generalize (setTo l n t w i).map encReg = rr at *
  have hbit2 : andI .i64 (n.fdiv (2 ^ i)) 1 = bitOf n i := by rw [← hbit]; norm_cast
  have hii : (i : Int) < 3 := by omega
  have h3 : i < 3 := by omega
  have hng : ¬ (i : Int) < 0 := by omega
  simp only [encReg] at h1 hat hat2
  by_cases c : l[i].val = bitOf n i
  · rw [if_pos c]
    have hself : rr.set i [I l[i].val, I l[i].time, I l[i].who] = rr := by
      apply List.ext_getElem?
      intro j
      rw [List.getElem?_set]
      split
      · rename_i hj; subst hj; simp [hi2, hat]
      · rfl
    rw [hself]
    simp (maxSteps := 1000000) [impl_SetFlags.l0, List.range_succ, bs_get, setAt, hl, hlen, hat, hat2, e5, hmin, hbit, hbit2, hii, h3, hng, c, encReg, IntKind.bits]
  · rw [if_neg c]
    simp (maxSteps := 1000000) [impl_SetFlags.l0, List.range_succ, bs_get, setAt, hl, hlen, hat, hat2, e5, hmin, hbit, hbit2, hii, h3, hng, c, h1, encReg, IntKind.bits]
end Mx

/-
  What is done in boxes: flags set, mails marked.
-/
namespace Mx
open Go
variable {M : Nat → Option Body}
theorem impl_SetFlags.says (h : impl_SetFlags.k M) (l : List Reg) (n t w : Int) (hl : l.length ≤ 1048576) : run M 182 [.c (regs l), .c (I n), .a [I t, I w]] [] = some (.c (.sl true 3 ((setFlags l n t w).map encReg)), []) := by
  obtain ⟨h0, k1, k2, k3, k4⟩ := h
  have h1 := impl_isFlags.says k1 n
  have h2 := impl_FlagsOk.says k2 l hl
  have h3 := impl_copyRegs.says k3 l hl
  refine run_code (b := impl_SetFlags.m) h0 ⟨4, ?_⟩
  have e7 : (l.map encReg).length = l.length := by simp
  have e8 : (l.map encReg).all (fun r => r.all T.scalar) = true := by simp [T.scalar]
  unfold setFlags
  simp only [regs] at *
  cases c1 : flagsOk l
  · simp only [Bool.false_eq_true, false_and, if_false]
    generalize l.map encReg = r at *
    simp (maxSteps := 1000000) [exB, impl_SetFlags.m, impl_SetFlags.b, List.range_succ, bs_get, setAt, h2, h3, c1, e7, e8, List.take_of_length_le]
  cases c2 : inR 0 n 7
  · simp only [Bool.false_eq_true, and_false, if_false]
    generalize l.map encReg = r at *
    simp (maxSteps := 1000000) [exB, impl_SetFlags.m, impl_SetFlags.b, List.range_succ, bs_get, setAt, h1, h2, h3, c1, c2, e7, e8, List.take_of_length_le]
  have hl3 := (flagsOk_regs c1).1
  obtain ⟨g, hr⟩ := count_loop (f := exC (run M) 4 impl_SetFlags.l0) l.length (sgS l n t w) 0 (sgE l n t w)
    (fun i hi x => impl_SetFlags.turn k4 l n t w 4 i hl3 hi x)
    (fun x => by
      obtain ⟨v, u, x⟩ := x
      simp only [sgS, sgE, Prod.exists]
      generalize (setTo l n t w l.length).map encReg = rr
      simp (maxSteps := 1000000) [impl_SetFlags.l0, List.range_succ, bs_get, setAt])
  have e9 : ((setTo l n t w l.length).map encReg).length = l.length := by simp [setTo_len]
  simp only [true_and, if_true]
  rw [← setTo_all]
  simp only [sgS, sgE, setTo_zero] at hr
  generalize (setTo l n t w l.length).map encReg = rr at *
  generalize l.map encReg = r at *
  simp [hl3] at hr
  simp (maxSteps := 1000000) [exB, impl_SetFlags.m, impl_SetFlags.b, List.range_succ, bs_get, setAt, hr, h1, h2, h3, c1, c2, e7, e8, e9, hl3, List.take_of_length_le]
def shS (l : List Reg) (n t w : Int) (i : Nat) (x : Nat × Nat × Nat) : St := { t := [(1, .c (I n)), (5, .c (.ptr 5 x.1 0 0)), (7, .c (.row 11100 x.2.1 0 l.length)), (8, .c (I i))], o := [(5, ⟨x.1, 2, true, true, [[I t, I w]]⟩), (11100, ⟨x.2.1, 3, true, false, (setTo l n t w i).map encReg⟩)], n := x.2.2 }
def shE (l : List Reg) (n t w : Int) (x : Nat × Nat × Nat) : St := { t := [(1, .c (I n)), (5, .c (.ptr 5 x.1 0 0)), (7, .c (.row 11100 x.2.1 0 l.length)), (8, .c (I l.length)), (24, .c (.bool false))], o := [(5, ⟨x.1, 2, true, true, [[I t, I w]]⟩), (11100, ⟨x.2.1, 3, true, false, (setTo l n t w l.length).map encReg⟩)], n := x.2.2 }
theorem spec_SetFlags.turn (k : spec_PutReg.k M) (l : List Reg) (n t w : Int) (K i : Nat) (hn : 0 ≤ n) (hl : l.length = 3) (hi : i < l.length) (x : Nat × Nat × Nat) :
    ∃ y, exC (run M) K spec_SetFlags.l0 (shS l n t w i x) = some (.normal, shS l n t w (i + 1) y) := by
  obtain ⟨v, u, x⟩ := x
  have e5 : IntKind.i64.wrap ((i : Int) + 1) = (i : Int) + 1 := wrap_i64 (by omega) (by omega)
  have h1 := spec_PutReg.says k l[i] (bitOf n i) t w
  have hlen : ((setTo l n t w i).map encReg).length = l.length := by simp [setTo_len]
  have hi2 : i < ((setTo l n t w i).map encReg).length := by omega
  have hat : ((setTo l n t w i).map encReg)[i]'hi2 = encReg l[i] := by rw [List.getElem_map, setTo_at]
  have hset : (setTo l n t w (i + 1)).map encReg = ((setTo l n t w i).map encReg).set i (encReg (setFlag n t w i l[i])) := by rw [setTo_succ _ _ _ _ _ hi, List.map_set]
  have hmin : Min.min i 64 = i := by omega
  have hu : IntKind.u64.wrap (i : Int) = i := by unfold IntKind.wrap; simp [IntKind.bits, IntKind.signed]; omega
  have hdiv : 0 ≤ n.fdiv ((2 ^ i : Nat) : Int) := Int.fdiv_nonneg hn (Int.natCast_nonneg _)
  have hbit : (n.fdiv ((2 ^ i : Nat) : Int)).tmod 2 = bitOf n i := by
    unfold bitOf; exact Int.tmod_eq_emod_of_nonneg hdiv
  have hbit2 : (n.fdiv (2 ^ i)).tmod 2 = bitOf n i := by rw [← hbit]; norm_cast
  have hii : (i : Int) < 3 := by omega
  have h3 : i < 3 := by omega
  have hng : ¬ (i : Int) < 0 := by omega
  simp only [shS, hset, setFlag, Prod.exists]
  generalize (setTo l n t w i).map encReg = rr at *
  simp only [encReg] at h1 hat
  by_cases c : l[i].val = bitOf n i
  · rw [if_pos c]
    have hself : rr.set i [I l[i].val, I l[i].time, I l[i].who] = rr := by
      apply List.ext_getElem?
      intro j
      rw [List.getElem?_set]
      split
      · rename_i hj; subst hj; simp [hi2, hat]
      · rfl
    rw [hself]
    simp (maxSteps := 1000000) [spec_SetFlags.l0, List.range_succ, bs_get, setAt, hl, hlen, hat, e5, hu, hmin, hbit, hbit2, hii, h3, hng, c, encReg, IntKind.bits]
  · rw [if_neg c]
    simp (maxSteps := 1000000) [spec_SetFlags.l0, List.range_succ, bs_get, setAt, hl, hlen, hat, e5, hu, hmin, hbit, hbit2, hii, h3, hng, c, h1, encReg, IntKind.bits]
theorem spec_SetFlags.says (h : spec_SetFlags.k M) (l : List Reg) (n t w : Int) (hl : l.length ≤ 1048576) : run M 184 [.c (regs l), .c (I n), .a [I t, I w]] [] = some (.c (.sl true 3 ((setFlags l n t w).map encReg)), []) := by
  obtain ⟨h0, k1, k3, k2, k4⟩ := h
  have h1 := spec_l01In.inR k1 n 0 7
  have h2 := spec_FlagsOk.says k2 l hl
  have h3 := spec_l04Copy.says k3 l hl
  refine run_code (b := spec_SetFlags.m) h0 ⟨4, ?_⟩
  have e7 : (l.map encReg).length = l.length := by simp
  have e8 : (l.map encReg).all (fun r => r.all T.scalar) = true := by simp [T.scalar]
  unfold setFlags
  simp only [regs] at *
  cases c1 : flagsOk l
  · simp only [Bool.false_eq_true, false_and, if_false]
    generalize l.map encReg = r at *
    simp (maxSteps := 1000000) [exB, spec_SetFlags.m, spec_SetFlags.b, List.range_succ, bs_get, setAt, h2, h3, c1, e7, e8, List.take_of_length_le]
  cases c2 : inR 0 n 7
  · simp only [Bool.false_eq_true, and_false, if_false]
    generalize l.map encReg = r at *
    simp (maxSteps := 1000000) [exB, spec_SetFlags.m, spec_SetFlags.b, List.range_succ, bs_get, setAt, h1, h2, h3, c1, c2, e7, e8, List.take_of_length_le]
  have hl3 := (flagsOk_regs c1).1
  obtain ⟨g, hr⟩ := count_loop (f := exC (run M) 4 spec_SetFlags.l0) l.length (shS l n t w) 0 (shE l n t w)
    (fun i hi x => spec_SetFlags.turn k4 l n t w 4 i (inR_iff.1 c2).1 hl3 hi x)
    (fun x => by
      obtain ⟨v, u, x⟩ := x
      simp only [shS, shE, Prod.exists]
      generalize (setTo l n t w l.length).map encReg = rr
      simp (maxSteps := 1000000) [spec_SetFlags.l0, List.range_succ, bs_get, setAt])
  have e9 : ((setTo l n t w l.length).map encReg).length = l.length := by simp [setTo_len]
  simp only [true_and, if_true]
  rw [← setTo_all]
  simp only [shS, shE, setTo_zero] at hr
  generalize (setTo l n t w l.length).map encReg = rr at *
  generalize l.map encReg = r at *
  simp [hl3] at hr
  simp (maxSteps := 1000000) [exB, spec_SetFlags.m, spec_SetFlags.b, List.range_succ, bs_get, setAt, hr, h1, h2, h3, c1, c2, e7, e8, e9, hl3, List.take_of_length_le]
end Mx

/-
  What is done in boxes: mails marked, put in.
-/
namespace Mx
open Go
variable {M : Nat → Option Body}
def flagMail (b : Box) (g n t w : Int) : Box × Bool := match mailO b.mails g with
  | none => (b, false)
  | some k => match b.mails[k]? with
    | none => (b, false)
    | some m => if boxOk b = true ∧ inR 0 n 7 = true ∧ stampOk t w = true then ({ b with mails := b.mails.set k { m with flags := setFlags m.flags n t w } }, true) else (b, false)
theorem mailO_lt {l : List Mail} {g : Int} {k : Nat} (h : mailO l g = some k) : k < l.length := atO_lt l g _ _ _ h
set_option maxHeartbeats 1000000 in
theorem impl_FlagMail.says (h : impl_FlagMail.k M) (b : Box) (hb : BoxIn b) (g n t w : Int) : run M 83 [.a (encBox b), .c (I g), .c (I n), .a [I t, I w]] [] = some (.tup [.a (encBoxO (flagMail b g n t w).1), .c (.bool (flagMail b g n t w).2)], []) := by
  obtain ⟨h0, k1, k2, k3, k4, k5, k6⟩ := h
  have h1 := impl_MailAt.says k1 b g hb.m
  have h2 := impl_BoxOk.says k2 b hb.ok.1 hb.ok.2.1 hb.ok.2.2.1 hb.ok.2.2.2
  have h3 := impl_isFlags.says k3 n
  have h4 := impl_copyBox.says k4 b hb
  have h5 := impl_StampOk.says k5 t w
  refine run_code (b := impl_FlagMail.m) h0 ⟨0, ?_⟩
  have e7 : (b.mails.map encMail).length = b.mails.length := by simp
  have e8 := irow_length b.gone
  unfold flagMail
  cases hk : mailO b.mails g with
  | none =>
    rw [hk] at h1
    simp only [intO] at h1
    simp only [encBox, encBoxO, mails, ints] at *
    generalize boxOk b = ok at *
    generalize b.mails.map encMail = rm at *
    generalize irow b.gone = rg at *
    cases ok <;> simp (maxSteps := 1000000) [exB, impl_FlagMail.m, impl_FlagMail.b, List.range_succ, bs_get, setAt, h1, h2, h4, e7, e8, List.take_of_length_le]
  | some k =>
    have hlt := mailO_lt hk
    rw [hk] at h1
    simp only [intO] at h1
    have h6 := impl_SetFlags.says k6 b.mails[k].flags n t w (hb.f _ (List.getElem_mem hlt))
    have hat : (b.mails.map encMail)[k]'(by rw [e7]; exact hlt) = [I b.mails[k].gid, I b.mails[k].uid, regs b.mails[k].flags, S b.mails[k].text] := by rw [List.getElem_map]
    have hset : (b.mails.set k { b.mails[k] with flags := setFlags b.mails[k].flags n t w }).map encMail = (b.mails.map encMail).set k [I b.mails[k].gid, I b.mails[k].uid, .sl false 3 ((setFlags b.mails[k].flags n t w).map encReg), S b.mails[k].text] := by rw [List.map_set]
    have hng : ¬ (k : Int) < 0 := by omega
    simp only [List.getElem?_eq_getElem hlt]
    cases c1 : boxOk b
    · rw [c1] at h2
      simp only [Bool.false_eq_true, false_and, if_false]
      simp only [encBox, encBoxO, mails, ints] at *
      generalize b.mails.map encMail = rm at *
      generalize irow b.gone = rg at *
      simp (maxSteps := 1000000) [exB, impl_FlagMail.m, impl_FlagMail.b, List.range_succ, bs_get, setAt, h1, h2, h4, e7, e8, List.take_of_length_le]
    rw [c1] at h2
    cases c2 : inR 0 n 7
    · rw [c2] at h3
      simp only [Bool.false_eq_true, false_and, and_false, if_false]
      simp only [encBox, encBoxO, mails, ints] at *
      generalize b.mails.map encMail = rm at *
      generalize irow b.gone = rg at *
      simp (maxSteps := 1000000) [exB, impl_FlagMail.m, impl_FlagMail.b, List.range_succ, bs_get, setAt, h1, h2, h3, h4, e7, e8, hng, List.take_of_length_le]
    rw [c2] at h3
    cases c3 : stampOk t w
    · rw [c3] at h5
      simp only [Bool.false_eq_true, and_false, if_false]
      simp only [encBox, encBoxO, mails, ints] at *
      generalize b.mails.map encMail = rm at *
      generalize irow b.gone = rg at *
      simp (maxSteps := 1000000) [exB, impl_FlagMail.m, impl_FlagMail.b, List.range_succ, bs_get, setAt, h1, h2, h3, h4, h5, e7, e8, hng, List.take_of_length_le]
    rw [c3] at h5
    simp only [and_self, if_true]
    simp only [encBox, encBoxO, mails, ints, hset] at *
    generalize b.mails.map encMail = rm at *
    generalize irow b.gone = rg at *
    simp (maxSteps := 1000000) [exB, impl_FlagMail.m, impl_FlagMail.b, List.range_succ, bs_get, setAt, h1, h2, h3, h4, h5, h6, e7, e8, hng, hlt, hat, List.take_of_length_le]
set_option maxHeartbeats 1000000 in
theorem spec_FlagMail.says (h : spec_FlagMail.k M) (b : Box) (hb : BoxIn b) (g n t w : Int) : run M 84 [.a (encBox b), .c (I g), .c (I n), .a [I t, I w]] [] = some (.tup [.a (encBoxO (flagMail b g n t w).1), .c (.bool (flagMail b g n t w).2)], []) := by
  obtain ⟨h0, k2, k1, k3, k4, k5, k6⟩ := h
  have h1 := spec_MailAt.says k1 b g hb.m
  have h2 := spec_BoxOk.says k2 b hb.ok.1 hb.ok.2.1 hb.ok.2.2.1 hb.ok.2.2.2
  have h3 := spec_l01In.inR k3 n 0 7
  have h4 := spec_l06Copy.says k4 b hb
  have h5 := spec_StampOk.says k5 t w
  refine run_code (b := spec_FlagMail.m) h0 ⟨0, ?_⟩
  have e7 : (b.mails.map encMail).length = b.mails.length := by simp
  have e8 := irow_length b.gone
  unfold flagMail
  cases hk : mailO b.mails g with
  | none =>
    rw [hk] at h1
    simp only [intO] at h1
    simp only [encBox, encBoxO, mails, ints] at *
    generalize boxOk b = ok at *
    generalize b.mails.map encMail = rm at *
    generalize irow b.gone = rg at *
    cases ok <;> simp (maxSteps := 1000000) [exB, spec_FlagMail.m, spec_FlagMail.b, List.range_succ, bs_get, setAt, h1, h2, h4, e7, e8, List.take_of_length_le]
  | some k =>
    have hlt := mailO_lt hk
    rw [hk] at h1
    simp only [intO] at h1
    have h6 := spec_SetFlags.says k6 b.mails[k].flags n t w (hb.f _ (List.getElem_mem hlt))
    have hat : (b.mails.map encMail)[k]'(by rw [e7]; exact hlt) = [I b.mails[k].gid, I b.mails[k].uid, regs b.mails[k].flags, S b.mails[k].text] := by rw [List.getElem_map]
    have hset : (b.mails.set k { b.mails[k] with flags := setFlags b.mails[k].flags n t w }).map encMail = (b.mails.map encMail).set k [I b.mails[k].gid, I b.mails[k].uid, .sl false 3 ((setFlags b.mails[k].flags n t w).map encReg), S b.mails[k].text] := by rw [List.map_set]
    have hng : ¬ (k : Int) < 0 := by omega
    simp only [List.getElem?_eq_getElem hlt]
    cases c1 : boxOk b
    · rw [c1] at h2
      simp only [Bool.false_eq_true, false_and, if_false]
      simp only [encBox, encBoxO, mails, ints] at *
      generalize b.mails.map encMail = rm at *
      generalize irow b.gone = rg at *
      simp (maxSteps := 1000000) [exB, spec_FlagMail.m, spec_FlagMail.b, List.range_succ, bs_get, setAt, h1, h2, h4, e7, e8, List.take_of_length_le]
    rw [c1] at h2
    cases c2 : inR 0 n 7
    · rw [c2] at h3
      simp only [Bool.false_eq_true, false_and, and_false, if_false]
      simp only [encBox, encBoxO, mails, ints] at *
      generalize b.mails.map encMail = rm at *
      generalize irow b.gone = rg at *
      simp (maxSteps := 1000000) [exB, spec_FlagMail.m, spec_FlagMail.b, List.range_succ, bs_get, setAt, h1, h2, h3, h4, e7, e8, hng, List.take_of_length_le]
    rw [c2] at h3
    cases c3 : stampOk t w
    · rw [c3] at h5
      simp only [Bool.false_eq_true, and_false, if_false]
      simp only [encBox, encBoxO, mails, ints] at *
      generalize b.mails.map encMail = rm at *
      generalize irow b.gone = rg at *
      simp (maxSteps := 1000000) [exB, spec_FlagMail.m, spec_FlagMail.b, List.range_succ, bs_get, setAt, h1, h2, h3, h4, h5, e7, e8, hng, List.take_of_length_le]
    rw [c3] at h5
    simp only [and_self, if_true]
    simp only [encBox, encBoxO, mails, ints, hset] at *
    generalize b.mails.map encMail = rm at *
    generalize irow b.gone = rg at *
    simp (maxSteps := 1000000) [exB, spec_FlagMail.m, spec_FlagMail.b, List.range_succ, bs_get, setAt, h1, h2, h3, h4, h5, h6, e7, e8, hng, hlt, hat, List.take_of_length_le]
def addMail (b : Box) (g f : Int) (text : List UInt8) (t w : Int) : Box × Bool :=
  if boxOk b = true ∧ mailO b.mails g = none ∧ ¬ g ∈ b.gone ∧ inR 0 f 7 = true ∧ boxOk { b with mails := b.mails ++ [⟨g, b.next, flagsNew f t w, text⟩], next := b.next + 1 } = true
  then ({ b with mails := b.mails ++ [⟨g, b.next, flagsNew f t w, text⟩], next := b.next + 1 }, true) else (b, false)
set_option maxHeartbeats 2000000 in
theorem impl_AddMail.says (h : impl_AddMail.k M) (b : Box) (hb : BoxIn b) (g f : Int) (text : List UInt8) (t w : Int) :
    run M 70 [.a (encBox b), .c (I g), .c (I f), .c (S text), .a [I t, I w]] [] = some (.tup [.a (encBoxO (addMail b g f text t w).1), .c (.bool (addMail b g f text t w).2)], []) := by
  obtain ⟨h0, k1, k2, k3, k4, k5, k6⟩ := h
  have h1 := impl_MailAt.says k1 b g hb.m
  have h2 := impl_BoxOk.says k2 b hb.ok.1 hb.ok.2.1 hb.ok.2.2.1 hb.ok.2.2.2
  have h3 := impl_isFlags.says k3 f
  have h4 := impl_copyBox.says k4 b hb
  have h5 := slices_Contains_int_int.says k5 b.gone g (by have := hb.g; omega)
  have h6 := impl_FlagsNew.says k6 f t w
  refine run_code (b := impl_AddMail.m) h0 ⟨0, ?_⟩
  have e7 : (b.mails.map encMail).length = b.mails.length := by simp
  have e8 := irow_length b.gone
  unfold addMail
  cases c1 : boxOk b
  · rw [c1] at h2
    simp only [Bool.false_eq_true, false_and, if_false]
    simp only [encBox, encBoxO, mails, ints] at *
    generalize b.mails.map encMail = rm at *
    generalize irow b.gone = rg at *
    simp (maxSteps := 1000000) [exB, impl_AddMail.m, impl_AddMail.b, List.range_succ, bs_get, setAt, h2, h4, e7, e8, List.take_of_length_le]
  rw [c1] at h2
  cases hk : mailO b.mails g with
  | some k =>
    have hge : (0 : Int) ≤ k := by omega
    rw [hk] at h1
    simp only [intO] at h1
    simp only [reduceCtorEq, false_and, and_false, if_false]
    simp only [encBox, encBoxO, mails, ints] at *
    generalize b.mails.map encMail = rm at *
    generalize irow b.gone = rg at *
    simp (maxSteps := 1000000) [exB, impl_AddMail.m, impl_AddMail.b, List.range_succ, bs_get, setAt, h1, h2, h4, e7, e8, hge, List.take_of_length_le]
  | none =>
  rw [hk] at h1
  simp only [intO] at h1
  by_cases c2 : g ∈ b.gone
  · rw [decide_eq_true c2] at h5
    simp only [c2, not_true_eq_false, false_and, and_false, if_false]
    simp only [encBox, encBoxO, mails, ints] at *
    generalize b.mails.map encMail = rm at *
    generalize irow b.gone = rg at *
    simp (maxSteps := 1000000) [exB, impl_AddMail.m, impl_AddMail.b, List.range_succ, bs_get, setAt, h1, h2, h4, h5, e7, e8, List.take_of_length_le]
  rw [decide_eq_false c2] at h5
  cases c3 : inR 0 f 7
  · rw [c3] at h3
    simp only [Bool.false_eq_true, false_and, and_false, if_false]
    simp only [encBox, encBoxO, mails, ints] at *
    generalize b.mails.map encMail = rm at *
    generalize irow b.gone = rg at *
    simp (maxSteps := 1000000) [exB, impl_AddMail.m, impl_AddMail.b, List.range_succ, bs_get, setAt, h1, h2, h3, h4, h5, e7, e8, List.take_of_length_le]
  rw [c3] at h3
  have hnx : b.next ≤ 1000000000 ∧ 0 ≤ b.next := by
    have := (boxOk_vars c1).2.2.2.2.1; exact ⟨this.2, this.1⟩
  have hml := (boxOk_vars c1).2.2.2.2.2.1
  have e9 : IntKind.i64.wrap (b.next + 1) = b.next + 1 := wrap_i64 (by omega) (by omega)
  have hout : BoxIn { b with mails := b.mails ++ [⟨g, b.next, flagsNew f t w, text⟩], next := b.next + 1 } := by
    refine ⟨by simp; omega, hb.g, hb.n, fun m hm => ?_⟩
    rcases List.mem_append.1 hm with hm | hm
    · exact hb.f m hm
    · simp only [List.mem_singleton] at hm
      subst hm; simp [flagsNew]
  have h7 := impl_BoxOk.says k2 _ hout.ok.1 hout.ok.2.1 hout.ok.2.2.1 hout.ok.2.2.2
  have e10 : (b.mails ++ [(⟨g, b.next, flagsNew f t w, text⟩ : Mail)]).map encMail = b.mails.map encMail ++ [[I g, I b.next, .sl false 3 ((flagsNew f t w).map encReg), S text]] := by simp
  have e11 : b.mails.length + 1 ≤ 4294967296 := by omega
  simp only [encBox, mails, e10] at h7
  simp only [hk, c2, not_false_eq_true, true_and]
  cases c4 : boxOk { b with mails := b.mails ++ [⟨g, b.next, flagsNew f t w, text⟩], next := b.next + 1 }
  · rw [c4] at h7
    simp only [Bool.false_eq_true, if_false]
    simp only [encBox, encBoxO, mails, ints] at *
    generalize (flagsNew f t w).map encReg = rf at *
    generalize b.mails.map encMail = rm at *
    generalize irow b.gone = rg at *
    simp (maxSteps := 1000000) [exB, impl_AddMail.m, impl_AddMail.b, List.range_succ, bs_get, setAt, h1, h2, h3, h4, h5, h6, h7, e7, e8, e9, e11, List.take_of_length_le]
  · rw [c4] at h7
    simp only [if_true]
    simp only [encBox, encBoxO, mails, ints, e10] at *
    generalize (flagsNew f t w).map encReg = rf at *
    generalize b.mails.map encMail = rm at *
    generalize irow b.gone = rg at *
    simp (maxSteps := 1000000) [exB, impl_AddMail.m, impl_AddMail.b, List.range_succ, bs_get, setAt, h1, h2, h3, h4, h5, h6, h7, e7, e8, e9, e11, List.take_of_length_le]
set_option maxHeartbeats 2000000 in
theorem spec_AddMail.says (h : spec_AddMail.k M) (b : Box) (hb : BoxIn b) (g f : Int) (text : List UInt8) (t w : Int) :
    run M 81 [.a (encBox b), .c (I g), .c (I f), .c (S text), .a [I t, I w]] [] = some (.tup [.a (encBoxO (addMail b g f text t w).1), .c (.bool (addMail b g f text t w).2)], []) := by
  obtain ⟨h0, k2, k1, k3, k5, k4, k6⟩ := h
  have h1 := spec_MailAt.says k1 b g hb.m
  have h2 := spec_BoxOk.says k2 b hb.ok.1 hb.ok.2.1 hb.ok.2.2.1 hb.ok.2.2.2
  have h3 := spec_l01In.inR k3 f 0 7
  have h4 := spec_l06Copy.says k4 b hb
  have h5 := spec_l06In.says k5 b.gone g (by have := hb.g; omega)
  have h6 := spec_FlagsNew.says k6 f t w
  refine run_code (b := spec_AddMail.m) h0 ⟨0, ?_⟩
  have e7 : (b.mails.map encMail).length = b.mails.length := by simp
  have e8 := irow_length b.gone
  unfold addMail
  cases c1 : boxOk b
  · rw [c1] at h2
    simp only [Bool.false_eq_true, false_and, if_false]
    simp only [encBox, encBoxO, mails, ints] at *
    generalize b.mails.map encMail = rm at *
    generalize irow b.gone = rg at *
    simp (maxSteps := 1000000) [exB, spec_AddMail.m, spec_AddMail.b, List.range_succ, bs_get, setAt, h2, h4, e7, e8, List.take_of_length_le]
  rw [c1] at h2
  cases hk : mailO b.mails g with
  | some k =>
    have hge : (0 : Int) ≤ k := by omega
    rw [hk] at h1
    simp only [intO] at h1
    simp only [reduceCtorEq, false_and, and_false, if_false]
    simp only [encBox, encBoxO, mails, ints] at *
    generalize b.mails.map encMail = rm at *
    generalize irow b.gone = rg at *
    simp (maxSteps := 1000000) [exB, spec_AddMail.m, spec_AddMail.b, List.range_succ, bs_get, setAt, h1, h2, h4, e7, e8, hge, List.take_of_length_le]
  | none =>
  rw [hk] at h1
  simp only [intO] at h1
  by_cases c2 : g ∈ b.gone
  · rw [decide_eq_true c2] at h5
    simp only [c2, not_true_eq_false, false_and, and_false, if_false]
    simp only [encBox, encBoxO, mails, ints] at *
    generalize b.mails.map encMail = rm at *
    generalize irow b.gone = rg at *
    simp (maxSteps := 1000000) [exB, spec_AddMail.m, spec_AddMail.b, List.range_succ, bs_get, setAt, h1, h2, h4, h5, e7, e8, List.take_of_length_le]
  rw [decide_eq_false c2] at h5
  cases c3 : inR 0 f 7
  · rw [c3] at h3
    simp only [Bool.false_eq_true, false_and, and_false, if_false]
    simp only [encBox, encBoxO, mails, ints] at *
    generalize b.mails.map encMail = rm at *
    generalize irow b.gone = rg at *
    simp (maxSteps := 1000000) [exB, spec_AddMail.m, spec_AddMail.b, List.range_succ, bs_get, setAt, h1, h2, h3, h4, h5, e7, e8, List.take_of_length_le]
  rw [c3] at h3
  have hnx : b.next ≤ 1000000000 ∧ 0 ≤ b.next := by
    have := (boxOk_vars c1).2.2.2.2.1; exact ⟨this.2, this.1⟩
  have hml := (boxOk_vars c1).2.2.2.2.2.1
  have e9 : IntKind.i64.wrap (b.next + 1) = b.next + 1 := wrap_i64 (by omega) (by omega)
  have hout : BoxIn { b with mails := b.mails ++ [⟨g, b.next, flagsNew f t w, text⟩], next := b.next + 1 } := by
    refine ⟨by simp; omega, hb.g, hb.n, fun m hm => ?_⟩
    rcases List.mem_append.1 hm with hm | hm
    · exact hb.f m hm
    · simp only [List.mem_singleton] at hm
      subst hm; simp [flagsNew]
  have h7 := spec_BoxOk.says k2 _ hout.ok.1 hout.ok.2.1 hout.ok.2.2.1 hout.ok.2.2.2
  have e10 : (b.mails ++ [(⟨g, b.next, flagsNew f t w, text⟩ : Mail)]).map encMail = b.mails.map encMail ++ [[I g, I b.next, .sl false 3 ((flagsNew f t w).map encReg), S text]] := by simp
  have e11 : b.mails.length + 1 ≤ 4294967296 := by omega
  simp only [encBox, mails, e10] at h7
  simp only [hk, c2, not_false_eq_true, true_and]
  cases c4 : boxOk { b with mails := b.mails ++ [⟨g, b.next, flagsNew f t w, text⟩], next := b.next + 1 }
  · rw [c4] at h7
    simp only [Bool.false_eq_true, if_false]
    simp only [encBox, encBoxO, mails, ints] at *
    generalize (flagsNew f t w).map encReg = rf at *
    generalize b.mails.map encMail = rm at *
    generalize irow b.gone = rg at *
    simp (maxSteps := 1000000) [exB, spec_AddMail.m, spec_AddMail.b, List.range_succ, bs_get, setAt, h1, h2, h3, h4, h5, h6, h7, e7, e8, e9, e11, List.take_of_length_le]
  · rw [c4] at h7
    simp only [if_true]
    simp only [encBox, encBoxO, mails, ints, e10] at *
    generalize (flagsNew f t w).map encReg = rf at *
    generalize b.mails.map encMail = rm at *
    generalize irow b.gone = rg at *
    simp (maxSteps := 1000000) [exB, spec_AddMail.m, spec_AddMail.b, List.range_succ, bs_get, setAt, h1, h2, h3, h4, h5, h6, h7, e7, e8, e9, e11, List.take_of_length_le]
end Mx

/-
  What is done in boxes: mails taken out.
-/
namespace Mx
attribute [simp] oTmps
open Go
variable {M : Nat → Option Body}
theorem added_eq {l : List Int} {n : Int} (hl : Asc l) : joinGone l [n] = gput l n :=
  asc_ext (joinGone_asc l [n]) (gput_asc hl) fun z => by rw [joinGone_mem, gput_mem]; simp; exact or_comm
theorem impl_added.says (h : impl_added.k M) (a : List Int) (n : Int) (ha : a.length ≤ 1048576) : run M 163 [.c (ints a), .c (I n)] [] = some (.c (.sl true 1 (irow (joinGone a [n]))), []) := by
  obtain ⟨h0, k1, k2, k3⟩ := h
  have h1 := impl_copyInts.says k1 a ha
  have hab : (a ++ [n]).length ≤ 4294967296 := by simp; omega
  have h2 := run_sort k2 (a ++ [n]) hab
  have hsl : (sortI (a ++ [n])).length = (a ++ [n]).length := by simp [sortI]
  have h3 := run_compact k3 (sortI (a ++ [n])) (by rw [hsl]; exact hab)
  rw [joinGone_sort] at h3
  have hjl : (joinGone a [n]).length ≤ (a ++ [n]).length := by
    have := gfold_len (a ++ [n]) []; simp only [joinGone]; simpa using this
  refine run_code (b := impl_added.m) h0 ⟨0, ?_⟩
  rw [hsl] at h3
  have e1 : irow (a ++ [n]) = irow a ++ [[I n]] := irow_snoc a n
  have e2 : irow (joinGone a [n] ++ List.replicate ((a ++ [n]).length - (joinGone a [n]).length) 0) = irow (joinGone a [n]) ++ irow (List.replicate ((a ++ [n]).length - (joinGone a [n]).length) 0) := by simp [irow]
  rw [e1] at h2
  rw [e2] at h3
  simp only [List.length_append, List.length_singleton] at h2 h3 hab hjl
  have l1 := irow_length a
  have l3 := irow_length (joinGone a [n])
  have l4 : (irow (List.replicate (a.length + 1 - (joinGone a [n]).length) 0)).length = a.length + 1 - (joinGone a [n]).length := by simp [irow]
  have s1 := irow_scalar (sortI (a ++ [n]))
  have s2 := irow_scalar (joinGone a [n])
  have l5 := irow_length (sortI (a ++ [n]))
  rw [hsl] at l5
  simp only [List.length_append, List.length_singleton] at l5
  simp only [ints] at h1 ⊢
  generalize irow (List.replicate (a.length + 1 - (joinGone a [n]).length) 0) = rz at *
  generalize irow (sortI (a ++ [n])) = rs at *
  generalize joinGone a [n] = j at *
  generalize irow j = rj at *
  have e5 : a.length ≤ 4294967296 := by omega
  have e6 : j.length ≤ rj.length + rz.length := by omega
  generalize irow a = ra at *
  simp (maxSteps := 1000000) [exB, impl_added.m, impl_added.b, List.range_succ, bs_get, setAt, h1, h2, h3, hab, l1, l3, l4, l5, e5, e6, s1, s2, List.take_of_length_le]
theorem last_of {α : Type} (x : α) (q : List α) : ∃ q' y, x :: q = q' ++ [y] ∧ q'.length = q.length := by
  refine ⟨(x :: q).dropLast, (x :: q).getLast (by simp), (List.dropLast_concat_getLast (by simp)).symm, by simp⟩
theorem slices_Delete_mails (h : slices_Delete_impl_Mail_impl_Mail.k M) (p : List (List T)) (x : List T) (q : List (List T)) (hl : p.length + (q.length + 1) ≤ 1048576) :
    run M 162 [.c (.row 0 0 0 (p.length + (q.length + 1))), .c (I p.length), .c (I ((p.length : Int) + 1))] [(0, ⟨0, 4, true, false, p ++ x :: q⟩)] =
      some (.c (.row 0 0 0 (p.length + q.length)), [(0, ⟨0, 4, true, false, p ++ q ++ [mzero]⟩)]) := by
  refine run_code (b := slices_Delete_impl_Mail_impl_Mail.m) h ⟨0, ?_⟩
  obtain ⟨q', y, hy, hq'⟩ := last_of x q
  have g1 : (0 : Int) ≤ (p.length : Int) + 1 := by omega
  have g2 : ¬ (p.length : Int) = (p.length : Int) + 1 := by omega
  have g3 : (p ++ x :: q).take p.length = p := by simp
  have g4 : (p ++ x :: q).drop (p.length + 1) = q := by simp
  have g5 : (p ++ x :: q).drop (p.length + q.length) = [y] := by
    rw [hy, ← hq', List.drop_append]; simp
  have g6 : p.length + (q.length + 1) - (p.length + 1) = q.length := by omega
  have g7 : (p ++ x :: q).length = p.length + (q.length + 1) := by simp
  have g8 : p.length + (q.length + 1) - (p.length + q.length) = 1 := by omega
  have g9 : p.length + q.length ≤ p.length + (q.length + 1) := by omega
  have g10 : p.length + q.length ≤ 4294967296 := by omega
  have g11 : ¬ p.length + q.length = p.length + (q.length + 1) := by omega
  have g12 : (p ++ q ++ [y]).length = p.length + (q.length + 1) := by simp
  have g13 : (p ++ q ++ [y]).take (p.length + q.length) = p ++ q := by rw [← List.length_append, List.take_left]
  have g19 : (1 : Int) ≤ (q.length : Int) + 1 := by omega
  have g20 : 1 ≤ q.length + 1 := by omega
  have g14 : (p ++ q ++ [y]).drop (p.length + (q.length + 1)) = [] := List.drop_eq_nil_of_le (by rw [g12]; omega)
  have g15 : p.length + 1 ≤ p.length + (q.length + 1) := by omega
  have g16 : p.length + q.length + 1 = p.length + (q.length + 1) := by omega
  have g17 : (0 : Int) ≤ (p.length : Int) + (q.length : Int) := by omega
  have g18 : (0 : Int) ≤ (p.length : Int) + ((q.length : Int) + 1) := by omega
  have g21 : p.length + 1 + q.length ≤ p.length + (q.length + 1) := by omega
  have g22 : 1 + q.length ≤ q.length + 1 := by omega
  generalize hR : p ++ x :: q = R at *
  simp only [List.append_assoc] at g12 g13 g14
  by_cases hq0 : q = []
  · subst hq0
    by_cases hz : p.length = 0
    · have hp : p = [] := List.eq_nil_of_length_eq_zero hz
      subst hp
      simp at g1 g2 g3 g4 g5 g6 g7 g8 g9 g10 g11 g12 g13 g14 g15 g16 g17 g18
      simp (maxSteps := 1000000) [exB, slices_Delete_impl_Mail_impl_Mail.m, slices_Delete_impl_Mail_impl_Mail.b, List.range_succ, bs_get, setAt, g1, g2, g3, g4, g5, g6, g7, g8, g9, g10, g11, g12, g13, g14, g15, g16, g17, g18, g19, g20, List.take_of_length_le]
    · simp at g1 g2 g3 g4 g5 g6 g7 g8 g9 g10 g11 g12 g13 g14 g15 g16 g17 g18
      simp (maxSteps := 1000000) [exB, slices_Delete_impl_Mail_impl_Mail.m, slices_Delete_impl_Mail_impl_Mail.b, List.range_succ, bs_get, setAt, g1, g2, g3, g4, g5, g6, g7, g8, g9, g10, g11, g12, g13, g14, g15, g16, g17, g18, g19, g20, hz, List.take_of_length_le]
  · have g23 : ((p.length : Int) + (q.length : Int)).toNat = p.length + q.length := by omega
    have g24 : ((p.length : Int) + ((q.length : Int) + 1)).toNat = p.length + (q.length + 1) := by omega
    have g25 : max ((p.length : Int) + (q.length : Int)) 0 ≤ (p.length : Int) + ((q.length : Int) + 1) := by omega
    by_cases hz : p.length = 0
    · have hp : p = [] := List.eq_nil_of_length_eq_zero hz
      subst hp
      simp at g1 g2 g3 g4 g5 g6 g7 g8 g9 g10 g11 g12 g13 g14 g15 g16 g17 g18
      simp (maxSteps := 1000000) [exB, slices_Delete_impl_Mail_impl_Mail.m, slices_Delete_impl_Mail_impl_Mail.b, List.range_succ, bs_get, setAt, g1, g2, g3, g4, g5, g6, g7, g8, g9, g10, g11, g12, g13, g14, g15, g16, g17, g18, g19, g20, g22, hq0, List.take_of_length_le]
    · simp (maxSteps := 1000000) [exB, slices_Delete_impl_Mail_impl_Mail.m, slices_Delete_impl_Mail_impl_Mail.b, List.range_succ, bs_get, setAt, g1, g2, g3, g4, g5, g6, g7, g8, g9, g10, g11, g12, g13, g14, g15, g16, g17, g18, g19, g20, g21, g23, g24, g25, hz, hq0, List.take_of_length_le]
end Mx

/-
  What is done in boxes: mails taken out.
-/
namespace Mx
open Go
variable {M : Nat → Option Body}
theorem gidsOk_asc {l : List Int} {most : Int} (h : gidsOk l most = true) : Asc l := by
  simp only [gidsOk, Bool.and_eq_true, decide_eq_true_eq, Option.isNone_iff_eq_none, firstN_isNone] at h
  have hn : ∀ j (hj : j < l.length), ∀ i (hi : i < j), l[i]'(by omega) < l[j] := by
    intro j
    induction j with
    | zero => intro _ i hi; omega
    | succ j ih =>
      intro hj i hi
      have := h.1 (j + 1) hj
      rw [badGid_at hj] at this
      simp at this
      by_cases e : i = j
      · subst e; exact this.2
      · exact Int.lt_trans (ih (by omega) i (by omega)) this.2
  exact List.pairwise_iff_getElem.2 fun i j hi hj hij => hn j hj i hij
theorem boxOk_gone {b : Box} (h : boxOk b = true) : gidsOk b.gone 40 = true := by
  simp only [boxOk, Bool.and_eq_true] at h
  exact h.1.2
def takeOut (b : Box) (g : Int) : Box × Bool := match mailO b.mails g with
  | none => (b, false)
  | some k => if boxOk b = true ∧ b.gone.length < 40 then ({ b with mails := b.mails.take k ++ b.mails.drop (k + 1), gone := gput b.gone g }, true) else (b, false)
theorem slices_Delete_at (h : slices_Delete_impl_Mail_impl_Mail.k M) (r : List (List T)) (k : Nat) (hk : k < r.length) (hl : r.length ≤ 1048576) :
    run M 162 [.c (.row 0 0 0 r.length), .c (I k), .c (I ((k : Int) + 1))] [(0, ⟨0, 4, true, false, r⟩)] =
      some (.c (.row 0 0 0 (r.length - 1)), [(0, ⟨0, 4, true, false, r.take k ++ r.drop (k + 1) ++ [mzero]⟩)]) := by
  have e : r.take k ++ r[k] :: r.drop (k + 1) = r := by simp
  have := slices_Delete_mails h (r.take k) r[k] (r.drop (k + 1)) (by simp; omega)
  rw [e] at this
  have e1 : (r.take k).length = k := by simp; omega
  have e2 : (r.drop (k + 1)).length = r.length - (k + 1) := by simp
  rw [e1, e2] at this
  have e3 : k + (r.length - (k + 1) + 1) = r.length := by omega
  have e4 : k + (r.length - (k + 1)) = r.length - 1 := by omega
  rw [e3, e4] at this
  exact this
set_option maxHeartbeats 1000000 in
theorem impl_TakeOut.says (h : impl_TakeOut.k M) (b : Box) (hb : BoxIn b) (g : Int) : run M 73 [.a (encBox b), .c (I g)] [] = some (.tup [.a (encBoxO (takeOut b g).1), .c (.bool (takeOut b g).2)], []) := by
  obtain ⟨h0, k1, k2, k3, k4, k5⟩ := h
  have h1 := impl_MailAt.says k1 b g hb.m
  have h2 := impl_BoxOk.says k2 b hb.ok.1 hb.ok.2.1 hb.ok.2.2.1 hb.ok.2.2.2
  have h4 := impl_copyBox.says k3 b hb
  have h5 := impl_added.says k5 b.gone g hb.g
  refine run_code (b := impl_TakeOut.m) h0 ⟨0, ?_⟩
  have e7 : (b.mails.map encMail).length = b.mails.length := by simp
  have e8 := irow_length b.gone
  unfold takeOut
  cases hk : mailO b.mails g with
  | none =>
    rw [hk] at h1
    simp only [intO] at h1
    simp only [encBox, encBoxO, mails, ints] at *
    generalize boxOk b = ok at *
    generalize b.mails.map encMail = rm at *
    generalize irow b.gone = rg at *
    cases ok <;> simp (maxSteps := 1000000) [exB, impl_TakeOut.m, impl_TakeOut.b, List.range_succ, bs_get, setAt, h1, h2, h4, e7, e8, List.take_of_length_le]
  | some k =>
    have hlt := mailO_lt hk
    rw [hk] at h1
    simp only [intO] at h1
    have hng : ¬ (k : Int) < 0 := by omega
    cases c1 : boxOk b
    · rw [c1] at h2
      simp only [Bool.false_eq_true, false_and, if_false]
      simp only [encBox, encBoxO, mails, ints] at *
      generalize b.mails.map encMail = rm at *
      generalize irow b.gone = rg at *
      simp (maxSteps := 1000000) [exB, impl_TakeOut.m, impl_TakeOut.b, List.range_succ, bs_get, setAt, h1, h2, h4, e7, e8, List.take_of_length_le]
    rw [c1] at h2
    have h40 := (boxOk_vars c1).2.2.2.2.2.2.1
    have hml := (boxOk_vars c1).2.2.2.2.2.1
    by_cases c2 : b.gone.length < 40
    · have n2 : ¬ b.gone.length = 40 := by omega
      have n3 : ¬ (b.gone.length : Int) = 40 := by omega
      simp only [c2, and_self, if_true]
      rw [added_eq (gidsOk_asc (boxOk_gone c1))] at h5
      have h6 := slices_Delete_at k4 (b.mails.map encMail) k (by rw [e7]; exact hlt) (by rw [e7]; exact hb.m)
      rw [e7] at h6
      have e9 : IntKind.i64.wrap ((k : Int) + 1) = (k : Int) + 1 := wrap_i64 (by omega) (by omega)
      have e10 : (b.mails.take k ++ b.mails.drop (k + 1)).map encMail = (b.mails.map encMail).take k ++ (b.mails.map encMail).drop (k + 1) := by simp
      have e11 : ((b.mails.map encMail).take k ++ ((b.mails.map encMail).drop (k + 1) ++ [mzero])).take (b.mails.length - 1) = (b.mails.map encMail).take k ++ (b.mails.map encMail).drop (k + 1) := by
        rw [← List.append_assoc]; exact List.take_left' (by simp; omega)
      have e12 := irow_length (gput b.gone g)
      have e13 : b.mails.length ≤ min k b.mails.length + (b.mails.length - (k + 1) + 1) + 1 := by omega
      simp only [encBox, encBoxO, mails, ints, e10] at *
      generalize b.mails.map encMail = rm at *
      generalize irow b.gone = rg at *
      generalize irow (gput b.gone g) = ru at *
      simp (maxSteps := 1000000) [exB, impl_TakeOut.m, impl_TakeOut.b, List.range_succ, bs_get, setAt, h1, h2, h4, h5, h6, e7, e8, e9, e11, e12, e13, hng, n2, n3, List.take_of_length_le]
    · have n2 : b.gone.length = 40 := by omega
      have n3 : (b.gone.length : Int) = 40 := by omega
      simp only [c2, and_false, if_false]
      simp only [encBox, encBoxO, mails, ints] at *
      generalize b.mails.map encMail = rm at *
      generalize irow b.gone = rg at *
      simp (maxSteps := 1000000) [exB, impl_TakeOut.m, impl_TakeOut.b, List.range_succ, bs_get, setAt, h1, h2, h4, e7, e8, n2, n3, hng, List.take_of_length_le]
set_option maxHeartbeats 1000000 in
theorem spec_TakeOut.says (h : spec_TakeOut.k M) (b : Box) (hb : BoxIn b) (g : Int) : run M 86 [.a (encBox b), .c (I g)] [] = some (.tup [.a (encBoxO (takeOut b g).1), .c (.bool (takeOut b g).2)], []) := by
  obtain ⟨h0, k2, k1, k5, k3⟩ := h
  have h1 := spec_MailAt.says k1 b g hb.m
  have h2 := spec_BoxOk.says k2 b hb.ok.1 hb.ok.2.1 hb.ok.2.2.1 hb.ok.2.2.2
  have h4 := spec_l06Copy.says k3 b hb
  have h5 := spec_l06Put.says k5 b.gone g (by have := hb.g; omega)
  refine run_code (b := spec_TakeOut.m) h0 ⟨0, ?_⟩
  have e7 : (b.mails.map encMail).length = b.mails.length := by simp
  have e8 := irow_length b.gone
  unfold takeOut
  cases hk : mailO b.mails g with
  | none =>
    rw [hk] at h1
    simp only [intO] at h1
    simp only [encBox, encBoxO, mails, ints] at *
    generalize boxOk b = ok at *
    generalize b.mails.map encMail = rm at *
    generalize irow b.gone = rg at *
    cases ok <;> simp (maxSteps := 1000000) [exB, spec_TakeOut.m, spec_TakeOut.b, List.range_succ, bs_get, setAt, h1, h2, h4, e7, e8, List.take_of_length_le]
  | some k =>
    have hlt := mailO_lt hk
    rw [hk] at h1
    simp only [intO] at h1
    have hng : ¬ (k : Int) < 0 := by omega
    cases c1 : boxOk b
    · rw [c1] at h2
      simp only [Bool.false_eq_true, false_and, if_false]
      simp only [encBox, encBoxO, mails, ints] at *
      generalize b.mails.map encMail = rm at *
      generalize irow b.gone = rg at *
      simp (maxSteps := 1000000) [exB, spec_TakeOut.m, spec_TakeOut.b, List.range_succ, bs_get, setAt, h1, h2, h4, e7, e8, List.take_of_length_le]
    rw [c1] at h2
    have h40 := (boxOk_vars c1).2.2.2.2.2.2.1
    have hml := (boxOk_vars c1).2.2.2.2.2.1
    by_cases c2 : b.gone.length < 40
    · have n2 : ¬ 40 ≤ b.gone.length := by omega
      have n3 : ¬ (40 : Int) ≤ (b.gone.length : Int) := by omega
      simp only [c2, and_self, if_true]
      have e9 : IntKind.i64.wrap ((k : Int) + 1) = (k : Int) + 1 := wrap_i64 (by omega) (by omega)
      have e10 : (b.mails.take k ++ b.mails.drop (k + 1)).map encMail = (b.mails.map encMail).take k ++ (b.mails.map encMail).drop (k + 1) := by simp
      have e14 : min k b.mails.length = k := by omega
      have e12 := irow_length (gput b.gone g)
      have e13 : b.mails.length ≤ min k b.mails.length + (b.mails.length - (k + 1) + 1) + 1 := by omega
      simp only [encBox, encBoxO, mails, ints, e10] at *
      generalize b.mails.map encMail = rm at *
      generalize irow b.gone = rg at *
      generalize irow (gput b.gone g) = ru at *
      have f1 : k ≤ b.mails.length := by omega
      have f2 : k + 1 ≤ b.mails.length := by omega
      have f3 : (0 : Int) ≤ k := by omega
      have f4 : (0 : Int) ≤ (k : Int) + 1 := by omega
      have f5 : (k : Int) ≤ b.mails.length := by omega
      have f6 : (k : Int) + 1 ≤ b.mails.length := by omega
      have f7 : ((k : Int) + 1).toNat = k + 1 := by omega
      have f8 : rm.take b.mails.length = rm := List.take_of_length_le (by omega)
      have f9 : k ≤ 4294967296 := by omega
      have f10 : b.mails.length ≤ 4294967296 := by omega
      have f11 : k + (b.mails.length - (k + 1)) ≤ 4294967296 := by omega
      have f13 : IntKind.i64.wrap 1 = 1 := wrap_i64 (by omega) (by omega)
      have f14 : b.mails.length ≤ 4294967297 := by omega
      have f12 : rm.length - (k + 1) ≤ 4294967296 := by omega
      by_cases z : k = 0
      · subst z
        by_cases y : b.mails.length = 1
        · have y2 : rm.drop 1 = [] := List.drop_eq_nil_of_le (by omega)
          simp (maxSteps := 1000000) [exB, spec_TakeOut.m, spec_TakeOut.b, List.range_succ, bs_get, setAt, h1, h2, h4, h5, e7, e8, e9, e12, n2, n3, f13, y, y2, List.take_of_length_le]
        · have y1 : ¬ 1 = b.mails.length := by omega
          simp (maxSteps := 1000000) [exB, spec_TakeOut.m, spec_TakeOut.b, List.range_succ, bs_get, setAt, h1, h2, h4, h5, e7, e8, e9, e12, n2, n3, f1, f2, f3, f4, f5, f6, f7, f8, f9, f10, f11, f12, f13, f14, y, y1, List.take_of_length_le]
      · have z0 : ¬ 0 = k := by omega
        by_cases y : b.mails.length = k + 1
        · have y2 : rm.drop (k + 1) = [] := List.drop_eq_nil_of_le (by omega)
          simp (maxSteps := 1000000) [exB, spec_TakeOut.m, spec_TakeOut.b, List.range_succ, bs_get, setAt, h1, h2, h4, h5, e7, e8, e9, e12, e14, hng, n2, n3, f1, f2, f3, f4, f5, f6, f7, f8, f9, f10, f11, f12, z, z0, y, y2, List.take_of_length_le]
        · have y1 : ¬ k + 1 = b.mails.length := by omega
          simp (maxSteps := 1000000) [exB, spec_TakeOut.m, spec_TakeOut.b, List.range_succ, bs_get, setAt, h1, h2, h4, h5, e7, e8, e9, e12, e14, hng, n2, n3, f1, f2, f3, f4, f5, f6, f7, f8, f9, f10, f11, f12, z, z0, y, y1, List.take_of_length_le]
    · have n2 : 40 ≤ b.gone.length := by omega
      have n3 : (40 : Int) ≤ (b.gone.length : Int) := by omega
      simp only [c2, and_false, if_false]
      simp only [encBox, encBoxO, mails, ints] at *
      generalize b.mails.map encMail = rm at *
      generalize irow b.gone = rg at *
      simp (maxSteps := 1000000) [exB, spec_TakeOut.m, spec_TakeOut.b, List.range_succ, bs_get, setAt, h1, h2, h4, e7, e8, n2, n3, hng, List.take_of_length_le]
end Mx

/-
  Right boxes, in plain words.
-/
namespace Mx
open Go
theorem atO_some (l : List Mail) (g : Int) : ∀ d i k, atO l g d i = some k → i ≤ k ∧ ∃ h : k < l.length, (l[k]).gid = g ∧ ∀ j, i ≤ j → (hj : j < k) → (l[j]'(by omega)).gid ≠ g
  | 0, i, k, h => by simp [atO] at h
  | d + 1, i, k, h => by
    simp only [atO] at h
    split at h
    · rename_i hi
      split at h
      · rename_i e
        cases h
        exact ⟨Nat.le_refl _, hi, e, fun j h1 h2 => by omega⟩
      · rename_i e
        obtain ⟨h1, h2, h3, h4⟩ := atO_some l g d (i + 1) k h
        refine ⟨by omega, h2, h3, fun j hj hk => ?_⟩
        by_cases q : j = i
        · subst q; exact e
        · exact h4 j (by omega) hk
    · cases h
theorem atO_none (l : List Mail) (g : Int) : ∀ d i, atO l g d i = none → ∀ j, i ≤ j → j < i + d → (hj : j < l.length) → (l[j]).gid ≠ g
  | 0, i, h, j, h1, h2, hj => by omega
  | d + 1, i, h, j, h1, h2, hj => by
    simp only [atO] at h
    rw [dif_pos (by omega)] at h
    split at h
    · cases h
    · rename_i e
      by_cases q : j = i
      · subst q; exact e
      · exact atO_none l g d (i + 1) h j (by omega) (by omega) hj
theorem mailO_some {l : List Mail} {g : Int} {k : Nat} (h : mailO l g = some k) : ∃ h : k < l.length, (l[k]).gid = g ∧ ∀ j, (hj : j < k) → (l[j]'(by omega)).gid ≠ g := by
  obtain ⟨_, h1, h2, h3⟩ := atO_some l g _ _ _ h
  exact ⟨h1, h2, fun j hj => h3 j (Nat.zero_le _) hj⟩
theorem mailO_none {l : List Mail} {g : Int} : mailO l g = none ↔ ∀ m ∈ l, m.gid ≠ g := by
  constructor
  · intro h m hm
    obtain ⟨j, hj, rfl⟩ := List.getElem_of_mem hm
    exact atO_none l g _ _ h j (Nat.zero_le _) (by omega) hj
  · intro h
    cases q : mailO l g with
    | none => rfl
    | some k =>
      obtain ⟨h1, h2, _⟩ := mailO_some q
      exact (h _ (List.getElem_mem h1) h2).elim
theorem mailO_at {l : List Mail} {k : Nat} (hk : k < l.length) (h : ∀ j, (hj : j < k) → (l[j]'(by omega)).gid ≠ (l[k]).gid) : mailO l (l[k]).gid = some k := by
  cases q : mailO l (l[k]).gid with
  | none => exact (mailO_none.1 q _ (List.getElem_mem hk) rfl).elim
  | some k' =>
    obtain ⟨h1, h2, h3⟩ := mailO_some q
    rcases Nat.lt_trichotomy k' k with c | c | c
    · exact (h k' c h2).elim
    · rw [c]
    · exact (h3 k c rfl).elim
/-- a right box -/
structure Good (b : Box) : Prop where
  gid : 1 ≤ b.gid ∧ b.gid ≤ 9999
  name : nameOk b.name = true
  st : stampOk b.time b.who = true
  next : 1 ≤ b.next ∧ b.next ≤ 10000
  len : b.mails.length ≤ 10
  gone : Asc b.gone
  goneR : ∀ g ∈ b.gone, 1 ≤ g ∧ g ≤ 9999
  goneL : b.gone.length ≤ 40
  mail : ∀ m ∈ b.mails, mailOk m = true ∧ m.uid < b.next ∧ ¬ m.gid ∈ b.gone
  uids : b.mails.Pairwise (fun a c => a.uid < c.uid)
  gids : b.mails.Pairwise (fun a c => a.gid ≠ c.gid)
theorem step_asc {l : List Int} (h : ∀ j (hj : j + 1 < l.length), l[j] < l[j + 1]) : Asc l := by
  have hn : ∀ j (hj : j < l.length), ∀ i (hi : i < j), l[i]'(by omega) < l[j] := by
    intro j
    induction j with
    | zero => intro _ i hi; omega
    | succ j ih =>
      intro hj i hi
      by_cases e : i = j
      · subst e; exact h i hj
      · exact Int.lt_trans (ih (by omega) i (by omega)) (h j hj)
  exact List.pairwise_iff_getElem.2 fun i j hi hj hij => hn j hj i hij
theorem gidsOk_iff {l : List Int} {most : Int} : gidsOk l most = true ↔ Asc l ∧ (∀ g ∈ l, 1 ≤ g ∧ g ≤ 9999) ∧ (l.length : Int) ≤ most := by
  constructor
  · intro h
    exact ⟨gidsOk_asc h, (gidsOk_vars h).2, (gidsOk_vars h).1⟩
  · rintro ⟨h1, h2, h3⟩
    simp only [gidsOk, Bool.and_eq_true, decide_eq_true_eq, Option.isNone_iff_eq_none, firstN_isNone]
    refine ⟨fun j hj => ?_, h3⟩
    rw [badGid_at hj]
    have q1 := h2 _ (List.getElem_mem hj)
    simp only [Bool.or_eq_false_iff, Bool.not_eq_eq_eq_not, Bool.not_false, Bool.and_eq_false_imp, decide_eq_true_eq, decide_eq_false_iff_not]
    refine ⟨inR_iff.2 q1, fun h0 => ?_⟩
    have := List.pairwise_iff_getElem.1 h1 (j - 1) j (by omega) hj (by omega)
    omega
theorem boxOk_iff {b : Box} : boxOk b = true ↔ Good b := by
  constructor
  · intro h
    have hv := boxOk_vars h
    have hg := gidsOk_iff.1 (boxOk_gone h)
    simp only [boxOk, Bool.and_eq_true, decide_eq_true_eq, Option.isNone_iff_eq_none, firstN_isNone] at h
    obtain ⟨⟨⟨⟨⟨⟨h1, h2⟩, h3⟩, h4⟩, h5⟩, h6⟩, h7⟩ := h
    have key : ∀ i (hi : i < b.mails.length), mailOk b.mails[i] = true ∧ b.mails[i].uid < b.next ∧ (0 < i → b.mails[i - 1].uid < b.mails[i].uid) ∧ mailO b.mails b.mails[i].gid = some i ∧ ¬ b.mails[i].gid ∈ b.gone := by
      intro i hi
      have := h7 i hi
      rw [badMail_at hi] at this
      simp only [Bool.or_eq_false_iff, Bool.not_eq_eq_eq_not, Bool.not_false, Bool.and_eq_false_imp, decide_eq_true_eq, decide_eq_false_iff_not] at this
      obtain ⟨⟨⟨⟨q1, q2⟩, q3⟩, q4⟩, q5⟩ := this
      refine ⟨q1, by omega, fun h0 => by have := q3 h0; omega, ?_, q5⟩
      cases e : mailO b.mails b.mails[i].gid with
      | none => rw [e] at q4; simp only [intO] at q4; omega
      | some k => rw [e] at q4; simp only [intO] at q4; rw [show k = i by omega]
    refine ⟨inR_iff.1 h1, h2, h3, inR_iff.1 h4, h5, hg.1, hg.2.1, by omega, fun m hm => ?_, ?_, ?_⟩
    · obtain ⟨j, hj, rfl⟩ := List.getElem_of_mem hm
      have := key j hj
      exact ⟨this.1, this.2.1, this.2.2.2.2⟩
    · have ha : Asc (b.mails.map (·.uid)) := step_asc fun j hj => by
        simp only [List.length_map] at hj
        have := (key (j + 1) hj).2.2.1 (by omega)
        simpa using this
      exact List.pairwise_map.1 ha
    · refine List.pairwise_iff_getElem.2 fun i j hi hj hij e => ?_
      obtain ⟨_, _, h3⟩ := mailO_some (key j hj).2.2.2.1
      exact h3 i hij e
  · intro h
    simp only [boxOk, Bool.and_eq_true, decide_eq_true_eq, Option.isNone_iff_eq_none, firstN_isNone]
    refine ⟨⟨⟨⟨⟨⟨inR_iff.2 h.gid, h.name⟩, h.st⟩, inR_iff.2 h.next⟩, h.len⟩, gidsOk_iff.2 ⟨h.gone, h.goneR, by have := h.goneL; omega⟩⟩, fun i hi => ?_⟩
    rw [badMail_at hi]
    obtain ⟨q1, q2, q3⟩ := h.mail _ (List.getElem_mem hi)
    simp only [Bool.or_eq_false_iff, Bool.not_eq_eq_eq_not, Bool.not_false, Bool.and_eq_false_imp, decide_eq_true_eq, decide_eq_false_iff_not]
    refine ⟨⟨⟨⟨q1, by omega⟩, fun h0 => ?_⟩, ?_⟩, q3⟩
    · have := List.pairwise_iff_getElem.1 h.uids (i - 1) i (by omega) hi (by omega)
      omega
    · rw [mailO_at hi fun j hj => List.pairwise_iff_getElem.1 h.gids j i (by omega) hi hj]
      rfl
end Mx

/-
  Right boxes stay right under what is done in them.
-/
namespace Mx
open Go
/-- a drawn box after i turns -/
structure Drawn (i : Nat) (b : Box) : Prop where
  good : Good b
  m : ∀ m ∈ b.mails, 10 ≤ m.gid ∧ m.gid ≤ 18
  g : ∀ g ∈ b.gone, 10 ≤ g ∧ g ≤ 18
  nx : b.next ≤ 4 + i
  gl : b.gone.length ≤ i
theorem Drawn.mono {i j : Nat} {b : Box} (h : Drawn i b) (hij : i ≤ j) : Drawn j b := ⟨h.good, h.m, h.g, by have := h.nx; omega, by have := h.gl; omega⟩
theorem Good.inB {b : Box} (h : Good b) : BoxIn b :=
  ⟨by have := h.len; omega, by have := h.goneL; omega, by have := (nameOk_len h.name).2; omega, fun m hm => by have := (mailOk_vars (h.mail m hm).1).2.2.1; omega⟩
theorem drawn_add {i : Nat} {b : Box} (h : Drawn i b) {g : Int} (hg : 10 ≤ g ∧ g ≤ 18) (f : Int) (x : List UInt8) (t w : Int) : Drawn (i + 1) (addMail b g f x t w).1 := by
  unfold addMail
  split
  · rename_i c
    refine ⟨boxOk_iff.1 c.2.2.2.2, fun m hm => ?_, h.g, by have := h.nx; simp only; omega, by have := h.gl; simp only; omega⟩
    rcases List.mem_append.1 hm with q | q
    · exact h.m m q
    · simp only [List.mem_singleton] at q; subst q; exact hg
  · exact h.mono (by omega)
theorem gput_len (l : List Int) (x : Int) : (gput l x).length ≤ l.length + 1 := by
  have h : ∀ l : List Int, (l.filter (fun y => decide (y < x))).length + (l.filter (fun y => decide (x < y))).length ≤ l.length := by
    intro l
    induction l with
    | nil => simp
    | cons a l ih =>
      simp only [List.filter_cons]
      by_cases c1 : a < x
      · have c2 : ¬ x < a := by omega
        simp [c1, c2]; omega
      · by_cases c2 : x < a
        · simp [c1, c2]; omega
        · simp [c1, c2]; omega
  have := h l
  simp only [gput, List.length_append, List.length_singleton]; omega
theorem sub_take_drop {α : Type} (l : List α) (k : Nat) : (l.take k ++ l.drop (k + 1)).Sublist l := by
  have e : l = l.take k ++ l.drop k := (List.take_append_drop k l).symm
  have h1 : (l.drop (k + 1)).Sublist (l.drop k) := by rw [← List.drop_drop]; exact List.drop_sublist 1 _
  have h2 := List.Sublist.append (List.Sublist.refl (l.take k)) h1
  rw [← e] at h2; exact h2
theorem good_take {b : Box} (h : Good b) {k : Nat} (hk : k < b.mails.length) (h40 : b.gone.length < 40) :
    Good { b with mails := b.mails.take k ++ b.mails.drop (k + 1), gone := gput b.gone (b.mails[k]).gid } := by
  have hs := sub_take_drop b.mails k
  have hq := h.mail _ (List.getElem_mem hk)
  have hv := (mailOk_vars hq.1).1
  have hgid : 1 ≤ (b.mails[k]).gid ∧ (b.mails[k]).gid ≤ 9999 := by
    have := hq.1
    simp only [mailOk, Bool.and_eq_true] at this
    exact inR_iff.1 this.1.1.1
  refine ⟨h.gid, h.name, h.st, h.next, by have := hs.length_le; have := h.len; simp only; omega, gput_asc h.gone, fun g hg => ?_, by have := gput_len b.gone (b.mails[k]).gid; simp only; omega, fun m hm => ?_, h.uids.sublist hs, h.gids.sublist hs⟩
  · rcases gput_mem.1 hg with q | q
    · rw [q]; exact hgid
    · exact h.goneR g q
  · have hm' := h.mail m (hs.subset hm)
    refine ⟨hm'.1, hm'.2.1, fun c => ?_⟩
    rcases gput_mem.1 c with q | q
    · rcases List.mem_append.1 hm with z | z
      · obtain ⟨j, hj, rfl⟩ := List.getElem_of_mem z
        rw [List.getElem_take] at q
        have hjk : j < k := by simp at hj; omega
        exact List.pairwise_iff_getElem.1 h.gids j k (by omega) hk hjk q
      · obtain ⟨j, hj, rfl⟩ := List.getElem_of_mem z
        rw [List.getElem_drop] at q
        exact List.pairwise_iff_getElem.1 h.gids k (k + 1 + j) hk (by simp at hj; omega) (by omega) q.symm
    · exact hm'.2.2 q
theorem drawn_take {i : Nat} {b : Box} (h : Drawn i b) {g : Int} (hg : 10 ≤ g ∧ g ≤ 18) : Drawn (i + 1) (takeOut b g).1 := by
  unfold takeOut
  split
  · exact h.mono (by omega)
  · rename_i k hk
    obtain ⟨hlt, he, _⟩ := mailO_some hk
    split
    · rename_i c
      have hs := sub_take_drop b.mails k
      have := good_take h.good hlt c.2
      rw [he] at this
      refine ⟨this, fun m hm => h.m m (hs.subset hm), fun x hx => ?_, by have := h.nx; simp only; omega, by have := gput_len b.gone g; have := h.gl; simp only; omega⟩
      rcases gput_mem.1 hx with q | q
      · rw [q]; exact hg
      · exact h.g x q
    · exact h.mono (by omega)
theorem flagsOk_iff {l : List Reg} : flagsOk l = true ↔ l.length = 3 ∧ ∀ r ∈ l, regOk r = true ∧ r.val ≤ 1 := by
  simp only [flagsOk, Bool.and_eq_true, decide_eq_true_eq, Option.isNone_iff_eq_none, firstN_isNone]
  constructor
  · rintro ⟨h1, h2⟩
    refine ⟨h2, fun r hr => ?_⟩
    obtain ⟨j, hj, rfl⟩ := List.getElem_of_mem hr
    have := h1 j hj
    rw [badFlag_at hj] at this
    simp only [Bool.or_eq_false_iff, Bool.not_eq_eq_eq_not, Bool.not_false, decide_eq_false_iff_not] at this
    exact ⟨this.1, by omega⟩
  · rintro ⟨h1, h2⟩
    refine ⟨fun j hj => ?_, h1⟩
    have := h2 _ (List.getElem_mem hj)
    rw [badFlag_at hj]
    simp only [Bool.or_eq_false_iff, Bool.not_eq_eq_eq_not, Bool.not_false, decide_eq_false_iff_not]
    exact ⟨this.1, by omega⟩
theorem setFlags_ok {l : List Reg} (h : flagsOk l = true) (n t w : Int) : flagsOk (setFlags l n t w) = true := by
  unfold setFlags
  split
  · obtain ⟨h1, h2⟩ := flagsOk_iff.1 h
    refine flagsOk_iff.2 ⟨by simpa using h1, fun r hr => ?_⟩
    obtain ⟨j, hj, rfl⟩ := List.getElem_of_mem hr
    rw [List.getElem_mapIdx]
    have hq := h2 _ (List.getElem_mem (l := l) (by simpa using hj))
    unfold setFlag
    split
    · exact hq
    · unfold putReg
      split
      · rename_i c
        exact ⟨c.2, (bitOf_range n j).2⟩
      · exact hq
  · exact h
theorem good_set {b : Box} (h : Good b) {k : Nat} (hk : k < b.mails.length) (fl : List Reg) (hf : flagsOk fl = true) : Good { b with mails := b.mails.set k { b.mails[k] with flags := fl } } := by
  have e1 : (b.mails.set k { b.mails[k] with flags := fl }).map (·.uid) = b.mails.map (·.uid) := by
    rw [List.map_set]; apply List.ext_getElem <;> simp [List.getElem_set]; intro i hi h2; subst h2; rfl
  have e2 : (b.mails.set k { b.mails[k] with flags := fl }).map (·.gid) = b.mails.map (·.gid) := by
    rw [List.map_set]; apply List.ext_getElem <;> simp [List.getElem_set]; intro i hi h2; subst h2; rfl
  refine ⟨h.gid, h.name, h.st, h.next, by simpa using h.len, h.gone, h.goneR, h.goneL, fun m hm => ?_, ?_, ?_⟩
  · obtain ⟨j, hj, rfl⟩ := List.getElem_of_mem hm
    simp only [List.length_set] at hj
    simp only [List.getElem_set]
    split
    · rename_i e; subst e
      have hq := h.mail _ (List.getElem_mem hk)
      refine ⟨?_, hq.2.1, hq.2.2⟩
      have := hq.1
      simp only [mailOk, Bool.and_eq_true] at this ⊢
      exact ⟨⟨this.1.1, hf⟩, this.2⟩
    · exact h.mail _ (List.getElem_mem hj)
  · have := List.pairwise_map.2 h.uids
    rw [← e1] at this
    exact List.pairwise_map.1 this
  · have := List.pairwise_map.2 h.gids
    rw [← e2] at this
    exact List.pairwise_map.1 this
theorem drawn_flag {i : Nat} {b : Box} (h : Drawn i b) (g n t w : Int) : Drawn (i + 1) (flagMail b g n t w).1 := by
  unfold flagMail
  split
  · exact h.mono (by omega)
  · rename_i k hk
    obtain ⟨hlt, he, _⟩ := mailO_some hk
    rw [List.getElem?_eq_getElem hlt]
    simp only
    split
    · have hm := h.good.mail _ (List.getElem_mem hlt)
      have hf : flagsOk (b.mails[k]).flags = true := by
        have := hm.1
        simp only [mailOk, Bool.and_eq_true] at this
        exact this.1.2
      refine ⟨good_set h.good hlt _ (setFlags_ok hf n t w), fun m hm => ?_, h.g, by have := h.nx; simp only; omega, by have := h.gl; simp only; omega⟩
      obtain ⟨j, hj, rfl⟩ := List.getElem_of_mem hm
      simp only [List.getElem_set]
      split
      · exact h.m (b.mails[k]) (List.getElem_mem hlt)
      · exact h.m _ (List.getElem_mem (by simpa using hj))
    · exact h.mono (by omega)
end Mx

/-
  What is drawn: a box.
-/
namespace Mx
open Go
variable {M : Nat → Option Body}
structure BxS where
  i : Nat
  b : Box
  c : Bool
  u2 : Nat
  u4 : Nat
  v1 : Nat
  v2 : Nat
  ic : Nat
  q : Int
  n : Nat
def bxM (s : BxS) : T := if s.c then .row 14905 s.v1 0 s.b.mails.length else .nils 4
def bxG (s : BxS) : T := if s.c then .row 14906 s.v2 0 s.b.gone.length else .nils 1
def dbxO (R : List (List T)) (s : BxS) : List (Nat × Ob) := [curD R s.ic s.q, (2, ⟨s.u2, 7, true, true, [bzero]⟩), (4, ⟨s.u4, 7, true, true, [[I s.b.gid, S s.b.name, I s.b.time, I s.b.who, I s.b.next, bxM s, bxG s]]⟩)] ++
  if s.c then [(14905, ⟨s.v1, 4, true, false, s.b.mails.map encMail⟩), (14906, ⟨s.v2, 1, true, false, irow s.b.gone⟩)] else []
def dbxS (R : List (List T)) (s : BxS) : St := { t := [(0, .c (.ptr 0 0 0 0)), (2, .c (.ptr 2 s.u2 0 0)), (4, .c (.ptr 4 s.u4 0 0)), (5, .c (I s.i))], o := dbxO R s, n := s.n }
def dbxE (R : List (List T)) (s : BxS) : St := { t := [(0, .c (.ptr 0 0 0 0)), (2, .c (.ptr 2 s.u2 0 0)), (4, .c (.ptr 4 s.u4 0 0)), (5, .c (I s.i)), (21, .c (.bool false))], o := dbxO R s, n := s.n }
structure BxI (R : List (List T)) (s : BxS) : Prop where
  i : s.i ≤ 11
  b : Drawn s.i s.b
  c : s.ic ≤ R.length
  e : s.c = false → s.b.mails = [] ∧ s.b.gone = []
structure BxK (M : Nat → Option Body) : Prop where
  add : spec_AddMail.k M
  flag : spec_FlagMail.k M
  take : spec_TakeOut.k M
  below : spec_l01Below.k M
  text : spec_l05Text.k M
  pick : spec_l01Pick.k M
  stamp : spec_l03Stamp.k M
/-- the loop ends -/
theorem bx_end {R : List (List T)} (s : BxS) (k ic' x : Nat) (q' : Int) (h1 : run M 125 [.c (.ptr 0 0 0 0), .c (I 12)] [curD R s.ic s.q] = some (.c (I x), [curD R ic' q'])) (hx : ¬ s.i < x) :
    ∃ n', exC (run M) k spec_l06Box.l0 (dbxS R s) = some (.exit 0, dbxE R { s with ic := ic', q := q', n := n' }) := by
  obtain ⟨i, b, c, u2, u4, v1, v2, ic, q, n⟩ := s
  simp only at h1 hx
  have e7 : (b.mails.map encMail).length = b.mails.length := by simp
  have e8 := irow_length b.gone
  simp only [dbxS, dbxE, dbxO, bxM, bxG]
  generalize b.mails.map encMail = rm at *
  generalize irow b.gone = rg at *
  cases c
  · simp (maxSteps := 1000000) [spec_l06Box.l0, List.range_succ, bs_get, setAt, h1, hx]
  · simp (maxSteps := 1000000) [spec_l06Box.l0, List.range_succ, bs_get, setAt, h1, hx]
set_option maxHeartbeats 4000000 in
theorem bx_add {R : List (List T)} (s : BxS) (k ic1 ic2 ic3 ic4 ic5 ic6 x g t w k5 f : Nat) (tx : List UInt8) (q1 q2 q3 q4 q5 q6 : Int) (b' : Box) (ok : Bool) (hi : s.i ≤ 11) (hg : g < 9)
    (he : s.c = false → s.b.mails = [] ∧ s.b.gone = [])
    (h1 : run M 125 [.c (.ptr 0 0 0 0), .c (I 12)] [curD R s.ic s.q] = some (.c (I x), [curD R ic1 q1])) (hx : s.i < x)
    (h2 : run M 125 [.c (.ptr 0 0 0 0), .c (I 9)] [curD R ic1 q1] = some (.c (I g), [curD R ic2 q2]))
    (h3 : run M 232 [.c (.ptr 0 0 0 0)] [curD R ic2 q2] = some (.a [I t, I w], [curD R ic3 q3]))
    (h4 : run M 125 [.c (.ptr 0 0 0 0), .c (I 5)] [curD R ic3 q3] = some (.c (I k5), [curD R ic4 q4]))
    (hk : k5 = 0 ∨ k5 = 1 ∨ k5 = 2)
    (h5 : run M 125 [.c (.ptr 0 0 0 0), .c (I 8)] [curD R ic4 q4] = some (.c (I f), [curD R ic5 q5]))
    (h6 : run M 174 [.c (.ptr 0 0 0 0)] [curD R ic5 q5] = some (.c (S tx), [curD R ic6 q6]))
    (h7 : run M 81 [.a (encBox s.b), .c (I (10 + (g : Int))), .c (I f), .c (S tx), .a [I t, I w]] [] = some (.tup [.a (encBoxO b'), .c (.bool ok)], [])) :
    ∃ v1' v2' n', exC (run M) k spec_l06Box.l0 (dbxS R s) = some (.normal, dbxS R ⟨s.i + 1, b', true, s.u2, s.u4, v1', v2', ic6, q6, n'⟩) := by
  have ez : ((0 : Nat) : Int) = 0 := rfl
  obtain ⟨i, b, c, u2, u4, v1, v2, ic, q, n⟩ := s
  simp only at h1 hx he hi
  have e3 : IntKind.i64.wrap ((i : Int) + 1) = (i : Int) + 1 := wrap_i64 (by omega) (by omega)
  have e4 : IntKind.i64.wrap (10 + (g : Int)) = 10 + (g : Int) := wrap_i64 (by omega) (by omega)
  have e7 : (b.mails.map encMail).length = b.mails.length := by simp
  have e8 := irow_length b.gone
  have e9 : (b'.mails.map encMail).length = b'.mails.length := by simp
  have e10 := irow_length b'.gone
  have e11 : (b.mails.map encMail).take b.mails.length = b.mails.map encMail := List.take_of_length_le (by omega)
  have e12 : (irow b.gone).take b.gone.length = irow b.gone := List.take_of_length_le (by omega)
  simp only [dbxS, dbxO, bxM, bxG]
  cases c
  · obtain ⟨em, eg⟩ := he rfl
    simp only [encBox, encBoxO, mails, ints, em, eg, List.map_nil] at h7
    simp only [irow_nil] at h7
    generalize b'.mails.map encMail = rm' at *
    generalize irow b'.gone = rg' at *
    rcases hk with rfl | rfl | rfl
    · simp only [Int.cast_ofNat_Int, ez] at h4
      simp (maxSteps := 1000000) [spec_l06Box.l0, List.range_succ, bs_get, setAt, h1, h2, h3, h4, h5, h6, h7, hx, e3, e4, e7, e8, e9, e10, e11, e12]
    · simp only [Int.cast_ofNat_Int, ez] at h4
      simp (maxSteps := 1000000) [spec_l06Box.l0, List.range_succ, bs_get, setAt, h1, h2, h3, h4, h5, h6, h7, hx, e3, e4, e7, e8, e9, e10, e11, e12]
    · simp only [Int.cast_ofNat_Int, ez] at h4
      simp (maxSteps := 1000000) [spec_l06Box.l0, List.range_succ, bs_get, setAt, h1, h2, h3, h4, h5, h6, h7, hx, e3, e4, e7, e8, e9, e10, e11, e12]
  · simp only [encBox, encBoxO, mails, ints] at h7
    generalize b'.mails.map encMail = rm' at *
    generalize irow b'.gone = rg' at *
    generalize b.mails.map encMail = rm at *
    generalize irow b.gone = rg at *
    rcases hk with rfl | rfl | rfl
    · simp only [Int.cast_ofNat_Int, ez] at h4
      simp (maxSteps := 1000000) [spec_l06Box.l0, List.range_succ, bs_get, setAt, h1, h2, h3, h4, h5, h6, h7, hx, e3, e4, e7, e8, e9, e10, e11, e12]
    · simp only [Int.cast_ofNat_Int, ez] at h4
      simp (maxSteps := 1000000) [spec_l06Box.l0, List.range_succ, bs_get, setAt, h1, h2, h3, h4, h5, h6, h7, hx, e3, e4, e7, e8, e9, e10, e11, e12]
    · simp only [Int.cast_ofNat_Int, ez] at h4
      simp (maxSteps := 1000000) [spec_l06Box.l0, List.range_succ, bs_get, setAt, h1, h2, h3, h4, h5, h6, h7, hx, e3, e4, e7, e8, e9, e10, e11, e12]
set_option maxHeartbeats 4000000 in
theorem bx_flag {R : List (List T)} (s : BxS) (k ic1 ic2 ic3 ic4 ic5 ic6 x g t w k5 f : Nat) (tx : List UInt8) (q1 q2 q3 q4 q5 q6 : Int) (b' : Box) (ok : Bool) (hi : s.i ≤ 11) (hg : g < 9)
    (he : s.c = false → s.b.mails = [] ∧ s.b.gone = [])
    (h1 : run M 125 [.c (.ptr 0 0 0 0), .c (I 12)] [curD R s.ic s.q] = some (.c (I x), [curD R ic1 q1])) (hx : s.i < x)
    (h2 : run M 125 [.c (.ptr 0 0 0 0), .c (I 9)] [curD R ic1 q1] = some (.c (I g), [curD R ic2 q2]))
    (h3 : run M 232 [.c (.ptr 0 0 0 0)] [curD R ic2 q2] = some (.a [I t, I w], [curD R ic3 q3]))
    (h4 : run M 125 [.c (.ptr 0 0 0 0), .c (I 5)] [curD R ic3 q3] = some (.c (I k5), [curD R ic4 q4]))
    (hk : k5 = 3)
    (h5 : run M 125 [.c (.ptr 0 0 0 0), .c (I 8)] [curD R ic4 q4] = some (.c (I f), [curD R ic5 q5]))
    (h7 : run M 84 [.a (encBox s.b), .c (I (10 + (g : Int))), .c (I f), .a [I t, I w]] [] = some (.tup [.a (encBoxO b'), .c (.bool ok)], [])) :
    ∃ v1' v2' n', exC (run M) k spec_l06Box.l0 (dbxS R s) = some (.normal, dbxS R ⟨s.i + 1, b', true, s.u2, s.u4, v1', v2', ic5, q5, n'⟩) := by
  subst hk
  simp only [Int.cast_ofNat_Int] at h4
  obtain ⟨i, b, c, u2, u4, v1, v2, ic, q, n⟩ := s
  simp only at h1 hx he hi
  have e3 : IntKind.i64.wrap ((i : Int) + 1) = (i : Int) + 1 := wrap_i64 (by omega) (by omega)
  have e4 : IntKind.i64.wrap (10 + (g : Int)) = 10 + (g : Int) := wrap_i64 (by omega) (by omega)
  have e7 : (b.mails.map encMail).length = b.mails.length := by simp
  have e8 := irow_length b.gone
  have e9 : (b'.mails.map encMail).length = b'.mails.length := by simp
  have e10 := irow_length b'.gone
  have e11 : (b.mails.map encMail).take b.mails.length = b.mails.map encMail := List.take_of_length_le (by omega)
  have e12 : (irow b.gone).take b.gone.length = irow b.gone := List.take_of_length_le (by omega)
  simp only [dbxS, dbxO, bxM, bxG]
  cases c
  · obtain ⟨em, eg⟩ := he rfl
    simp only [encBox, encBoxO, mails, ints, em, eg, List.map_nil] at h7
    simp only [irow_nil] at h7
    generalize b'.mails.map encMail = rm' at *
    generalize irow b'.gone = rg' at *
    simp (maxSteps := 1000000) [spec_l06Box.l0, List.range_succ, bs_get, setAt, h1, h2, h3, h4, h5, h7, hx, e3, e4, e7, e8, e9, e10, e11, e12]
  · simp only [encBox, encBoxO, mails, ints] at h7
    generalize b'.mails.map encMail = rm' at *
    generalize irow b'.gone = rg' at *
    generalize b.mails.map encMail = rm at *
    generalize irow b.gone = rg at *
    simp (maxSteps := 1000000) [spec_l06Box.l0, List.range_succ, bs_get, setAt, h1, h2, h3, h4, h5, h7, hx, e3, e4, e7, e8, e9, e10, e11, e12]
set_option maxHeartbeats 4000000 in
theorem bx_take {R : List (List T)} (s : BxS) (k ic1 ic2 ic3 ic4 ic5 ic6 x g t w k5 f : Nat) (tx : List UInt8) (q1 q2 q3 q4 q5 q6 : Int) (b' : Box) (ok : Bool) (hi : s.i ≤ 11) (hg : g < 9)
    (he : s.c = false → s.b.mails = [] ∧ s.b.gone = [])
    (h1 : run M 125 [.c (.ptr 0 0 0 0), .c (I 12)] [curD R s.ic s.q] = some (.c (I x), [curD R ic1 q1])) (hx : s.i < x)
    (h2 : run M 125 [.c (.ptr 0 0 0 0), .c (I 9)] [curD R ic1 q1] = some (.c (I g), [curD R ic2 q2]))
    (h3 : run M 232 [.c (.ptr 0 0 0 0)] [curD R ic2 q2] = some (.a [I t, I w], [curD R ic3 q3]))
    (h4 : run M 125 [.c (.ptr 0 0 0 0), .c (I 5)] [curD R ic3 q3] = some (.c (I k5), [curD R ic4 q4]))
    (hk : 3 < k5)
    (h7 : run M 86 [.a (encBox s.b), .c (I (10 + (g : Int)))] [] = some (.tup [.a (encBoxO b'), .c (.bool ok)], [])) :
    ∃ v1' v2' n', exC (run M) k spec_l06Box.l0 (dbxS R s) = some (.normal, dbxS R ⟨s.i + 1, b', true, s.u2, s.u4, v1', v2', ic4, q4, n'⟩) := by
  have d0 : ¬ k5 = 0 := by omega
  have d1 : ¬ k5 = 1 := by omega
  have d2 : ¬ k5 = 2 := by omega
  have d3 : ¬ k5 = 3 := by omega
  have f0 : ¬ (k5 : Int) = 0 := by omega
  have f1 : ¬ (k5 : Int) = 1 := by omega
  have f2 : ¬ (k5 : Int) = 2 := by omega
  have f3 : ¬ (k5 : Int) = 3 := by omega
  obtain ⟨i, b, c, u2, u4, v1, v2, ic, q, n⟩ := s
  simp only at h1 hx he hi
  have e3 : IntKind.i64.wrap ((i : Int) + 1) = (i : Int) + 1 := wrap_i64 (by omega) (by omega)
  have e4 : IntKind.i64.wrap (10 + (g : Int)) = 10 + (g : Int) := wrap_i64 (by omega) (by omega)
  have e7 : (b.mails.map encMail).length = b.mails.length := by simp
  have e8 := irow_length b.gone
  have e9 : (b'.mails.map encMail).length = b'.mails.length := by simp
  have e10 := irow_length b'.gone
  have e11 : (b.mails.map encMail).take b.mails.length = b.mails.map encMail := List.take_of_length_le (by omega)
  have e12 : (irow b.gone).take b.gone.length = irow b.gone := List.take_of_length_le (by omega)
  simp only [dbxS, dbxO, bxM, bxG]
  cases c
  · obtain ⟨em, eg⟩ := he rfl
    simp only [encBox, encBoxO, mails, ints, em, eg, List.map_nil] at h7
    simp only [irow_nil] at h7
    generalize b'.mails.map encMail = rm' at *
    generalize irow b'.gone = rg' at *
    simp (maxSteps := 1000000) [spec_l06Box.l0, List.range_succ, bs_get, setAt, h1, h2, h3, h4, h7, d0, d1, d2, d3, f0, f1, f2, f3, hx, e3, e4, e7, e8, e9, e10, e11, e12]
  · simp only [encBox, encBoxO, mails, ints] at h7
    generalize b'.mails.map encMail = rm' at *
    generalize irow b'.gone = rg' at *
    generalize b.mails.map encMail = rm at *
    generalize irow b.gone = rg at *
    simp (maxSteps := 1000000) [spec_l06Box.l0, List.range_succ, bs_get, setAt, h1, h2, h3, h4, h7, d0, d1, d2, d3, f0, f1, f2, f3, hx, e3, e4, e7, e8, e9, e10, e11, e12]
end Mx

/-
  What is drawn: a box, in full.
-/
namespace Mx
open Go
variable {M : Nat → Option Body}
theorem bx_turn (K : BxK M) {R : List (List T)} (hR : Bytes R) (k : Nat) (s : BxS) (hs : BxI R s) :
    (∃ s', exC (run M) k spec_l06Box.l0 (dbxS R s) = some (.normal, dbxS R s') ∧ BxI R s' ∧ 12 - s'.i < 12 - s.i) ∨
      (∃ r, exC (run M) k spec_l06Box.l0 (dbxS R s) = some r ∧ r.1 ≠ .normal ∧ ∃ s', r = (.exit 0, dbxE R s') ∧ BxI R s') := by
  have hb := hs.b.good.inB
  have hi := hs.i
  obtain ⟨x, ic1, q1, hx, hc1, h1⟩ := spec_l01Below.says K.below hR s.ic s.q hs.c 12 (by omega) (by omega)
  by_cases hlt : s.i < x
  · left
    obtain ⟨g, ic2, q2, hg, hc2, h2⟩ := spec_l01Below.says K.below hR ic1 q1 hc1 9 (by omega) (by omega)
    obtain ⟨t, w, ic3, q3, ht, hw1, hw2, hc3, h3⟩ := spec_l03Stamp.says K.stamp hR ic2 q2 hc2
    obtain ⟨k5, ic4, q4, hk5, hc4, h4⟩ := spec_l01Below.says K.below hR ic3 q3 hc3 5 (by omega) (by omega)
    have hgr : (10 : Int) ≤ 10 + (g : Int) ∧ 10 + (g : Int) ≤ 18 := ⟨by omega, by omega⟩
    by_cases c1 : k5 ≤ 2
    · obtain ⟨f, ic5, q5, hf, hc5, h5⟩ := spec_l01Below.says K.below hR ic4 q4 hc4 8 (by omega) (by omega)
      obtain ⟨tx, ic6, q6, htx, hc6, h6⟩ := spec_l05Text.says K.text hR ic5 q5 hc5
      have h7 := spec_AddMail.says K.add s.b hb (10 + (g : Int)) f tx t w
      obtain ⟨v1', v2', n', hh⟩ := bx_add s k ic1 ic2 ic3 ic4 ic5 ic6 x g t w k5 f tx q1 q2 q3 q4 q5 q6 _ _ hi hg hs.e h1 hlt h2 h3 h4 (by omega) h5 h6 h7
      exact ⟨_, hh, ⟨by simp only; omega, drawn_add hs.b hgr _ _ _ _, hc6, fun h => by cases h⟩, by simp only; omega⟩
    · by_cases c2 : k5 = 3
      · obtain ⟨f, ic5, q5, hf, hc5, h5⟩ := spec_l01Below.says K.below hR ic4 q4 hc4 8 (by omega) (by omega)
        have h7 := spec_FlagMail.says K.flag s.b hb (10 + (g : Int)) f t w
        obtain ⟨v1', v2', n', hh⟩ := bx_flag s k ic1 ic2 ic3 ic4 ic5 0 x g t w k5 f [] q1 q2 q3 q4 q5 0 _ _ hi hg hs.e h1 hlt h2 h3 h4 c2 h5 h7
        exact ⟨_, hh, ⟨by simp only; omega, drawn_flag hs.b _ _ _ _, hc5, fun h => by cases h⟩, by simp only; omega⟩
      · have h7 := spec_TakeOut.says K.take s.b hb (10 + (g : Int))
        obtain ⟨v1', v2', n', hh⟩ := bx_take s k ic1 ic2 ic3 ic4 0 0 x g t w k5 0 [] q1 q2 q3 q4 0 0 _ _ hi hg hs.e h1 hlt h2 h3 h4 (by omega) h7
        exact ⟨_, hh, ⟨by simp only; omega, drawn_take hs.b hgr, hc4, fun h => by cases h⟩, by simp only; omega⟩
  · right
    obtain ⟨n', hh⟩ := bx_end s k ic1 x q1 h1 hlt
    exact ⟨_, hh, by simp, _, rfl, ⟨hs.i, hs.b, hc1, hs.e⟩⟩
def names3 : List (List UInt8) := [[105, 110, 98, 111, 120], [119, 111, 114, 107], [111, 108, 100, 57]]
set_option maxHeartbeats 2000000 in
theorem spec_l06Box.says (h : spec_l06Box.k M) {R : List (List T)} (hR : Bytes R) (i : Nat) (q : Int) (hi : i ≤ R.length) :
    ∃ (b : Box) (i' : Nat) (q' : Int), Drawn 11 b ∧ i' ≤ R.length ∧ run M 154 [.c (.ptr 0 0 0 0)] [curD R i q] = some (.a (encBoxO b), [curD R i' q']) := by
  obtain ⟨h0, ka, kf, kt, kb, kx, kp, ks⟩ := h
  obtain ⟨t, w, ic1, q1, ht, hw1, hw2, hc1, h1⟩ := spec_l03Stamp.says ks hR i q hi
  obtain ⟨nm, ic2, q2, hnm, hc2, h2⟩ := spec_l01Pick.says kp hR ic1 q1 hc1 names3 (by decide) (by decide)
  obtain ⟨y, ic3, q3, hy, hc3, h3⟩ := spec_l01Below.says kb hR ic2 q2 hc2 4 (by omega) (by omega)
  have hname : nameOk nm = true := by
    have : ∀ s ∈ names3, nameOk s = true := by decide
    exact this nm hnm
  have e1 : IntKind.i64.wrap (1 + (y : Int)) = 1 + (y : Int) := wrap_i64 (by omega) (by omega)
  have hG : Drawn 0 { gid := 7, name := nm, time := t, who := w, next := 1 + (y : Int), mails := [], gone := [] } := by
    refine ⟨⟨by simp only; omega, hname, ?_, by simp only; omega, by simp, List.Pairwise.nil, by simp, by simp, by simp, List.Pairwise.nil, List.Pairwise.nil⟩, by simp, by simp, by simp only; omega, by simp⟩
    simp only [stampOk, Bool.and_eq_true]
    exact ⟨inR_iff.2 ⟨by omega, by omega⟩, inR_iff.2 ⟨by omega, by omega⟩⟩
  obtain ⟨r, hr, ⟨⟨j, b, c, u2, u4, v1, v2, ic, q', n⟩, rfl, hI⟩⟩ := loop_ex (f := exC (run M) 13 spec_l06Box.l0) (dbxS R) (BxI R) (fun s => 12 - s.i) (fun r => ∃ s', r = (.exit 0, dbxE R s') ∧ BxI R s')
    (fun s hs => bx_turn ⟨ka, kf, kt, kb, kx, kp, ks⟩ hR 13 s hs) 13 ⟨0, { gid := 7, name := nm, time := t, who := w, next := 1 + (y : Int), mails := [], gone := [] }, false, 2000000, 2000208, 0, 0, ic3, q3, 2000256⟩ ⟨by simp, hG, hc3, fun _ => ⟨rfl, rfl⟩⟩ (by simp)
  obtain ⟨hji, hD, hc, hE⟩ := hI
  simp only at hji hD hc hE
  refine ⟨b, ic, q', hD.mono hji, hc, run_code (b := spec_l06Box.m) h0 ⟨13, ?_⟩⟩
  simp only [names3, List.map_cons, List.map_nil, S, bs] at h2
  simp only [Int.cast_ofNat_Int] at h3
  have e7 : (b.mails.map encMail).length = b.mails.length := by simp
  have e8 := irow_length b.gone
  have e11 : (b.mails.map encMail).take b.mails.length = b.mails.map encMail := List.take_of_length_le (by omega)
  have e12 : (irow b.gone).take b.gone.length = irow b.gone := List.take_of_length_le (by omega)
  simp only [dbxS, dbxE, dbxO, bxM, bxG] at hr
  cases c
  · obtain ⟨em, eg⟩ := hE rfl
    simp at hr
    simp only [encBoxO, em, eg, List.map_nil, irow_nil]
    simp (maxSteps := 1000000) [exB, spec_l06Box.m, spec_l06Box.b, List.range_succ, bs_get, setAt, hr, h1, h2, h3, e1]
  · simp at hr
    simp only [encBoxO]
    generalize b.mails.map encMail = rm at *
    generalize irow b.gone = rg at *
    simp (maxSteps := 1000000) [exB, spec_l06Box.m, spec_l06Box.b, List.range_succ, bs_get, setAt, hr, h1, h2, h3, e1, e7, e8, e11, e12]
theorem spec_DrawBox.says (h : spec_DrawBox.k M) {R : List (List T)} (hR : Bytes R) :
    ∃ b : Box, Drawn 11 b ∧ run M 69 [.c (.sl false 1 R)] [] = some (.a (encBoxO b), []) := by
  obtain ⟨h0, k1, k2⟩ := h
  obtain ⟨q0, h1⟩ := spec_l01New.says k1 hR
  obtain ⟨b, i', q', hD, hi', h2⟩ := spec_l06Box.says k2 hR 0 q0 (Nat.zero_le _)
  have e0 : ((0 : Nat) : Int) = 0 := rfl
  simp only [curD, e0] at h2
  refine ⟨b, hD, run_code (b := spec_DrawBox.m) h0 ⟨0, ?_⟩⟩
  have e7 : (b.mails.map encMail).length = b.mails.length := by simp
  have e8 := irow_length b.gone
  have e11 : (b.mails.map encMail).take b.mails.length = b.mails.map encMail := List.take_of_length_le (by omega)
  have e12 : (irow b.gone).take b.gone.length = irow b.gone := List.take_of_length_le (by omega)
  simp only [encBoxO] at h2 ⊢
  generalize b.mails.map encMail = rm at *
  generalize irow b.gone = rg at *
  simp (maxSteps := 1000000) [exB, spec_DrawBox.m, spec_DrawBox.b, List.range_succ, bs_get, setAt, h1, h2, e7, e8, e11, e12]
end Mx

/-
  What is the same: mails, boxes, stores; the law of Alike.
-/
namespace Mx
open Go
variable {M : Nat → Option Body}
deriving instance DecidableEq for Reg
deriving instance DecidableEq for Mail
deriving instance DecidableEq for Box
/-- two lists of one length, element by element -/
theorem eq_loop {α : Type} [DecidableEq α] (la lb : List α) (hl : la.length = lb.length) {f : St → Option (Out × St)} {β : Type} (S : Nat → β → St) (c e : Nat) (E : β → St)
    (h1 : ∀ i (h : i < la.length) (h' : i < lb.length) x, la[i] = lb[i] → ∃ y, f (S i x) = some (.normal, S (i + 1) y))
    (h2 : ∀ i (h : i < la.length) (h' : i < lb.length) x, ¬ la[i] = lb[i] → ∃ n, f (S i x) = some (.ret, { t := [(c, .c (.bool false))], o := [], n := n }))
    (h3 : ∀ x, ∃ y, f (S la.length x) = some (.exit e, E y)) :
    ∃ g : β → β × Nat, ∀ x, loopN f (la.length + 1) (S 0 x) = some (if la = lb then (.exit e, E (g x).1) else (.ret, { t := [(c, .c (.bool false))], o := [], n := (g x).2 })) := by
  have key := loop_all (f := f) S (fun i => i ≤ la.length) (fun i => la.length - i) (fun i => decide (la.drop i = lb.drop i))
    (fun q (m : β × Nat) => if q = true then (.exit e, E m.1) else (.ret, { t := [(c, .c (.bool false))], o := [], n := m.2 })) (by
      intro i x hi
      by_cases hlt : i < la.length
      · have hlt' : i < lb.length := by omega
        have hd : (la.drop i = lb.drop i) ↔ (la[i] = lb[i] ∧ la.drop (i + 1) = lb.drop (i + 1)) := by
          rw [List.drop_eq_getElem_cons hlt, List.drop_eq_getElem_cons hlt', List.cons.injEq]
        by_cases c' : la[i] = lb[i]
        · obtain ⟨y, hy⟩ := h1 i hlt hlt' x c'
          exact .inl ⟨i + 1, y, hy, hlt, by omega, by rw [decide_eq_decide, hd]; simp [c']⟩
        · obtain ⟨n, hn⟩ := h2 i hlt hlt' x c'
          have hf : decide (la.drop i = lb.drop i) = false := decide_eq_false fun q => c' (hd.1 q).1
          exact .inr ⟨(x, n), by rw [hn, hf]; simp, by rw [hf]; simp⟩
      · have : i = la.length := by omega
        subst this
        obtain ⟨y, hy⟩ := h3 x
        have hd : lb.drop la.length = [] := List.drop_eq_nil_of_le (by omega)
        exact .inr ⟨(y, 0), by rw [hy]; simp [hd], by simp [hd]⟩) (la.length + 1) 0 (Nat.zero_le _) (by omega)
  obtain ⟨g, hg⟩ := key
  refine ⟨g, fun x => ?_⟩
  rw [hg x]
  simp only [List.drop_zero, decide_eq_true_eq]
theorem reg_ext {x y : Reg} (h1 : x.val = y.val) (h2 : x.time = y.time) (h3 : x.who = y.who) : x = y := by
  cases x; cases y; simp_all
theorem mail_ext {x y : Mail} (h1 : x.gid = y.gid) (h2 : x.uid = y.uid) (h3 : x.flags = y.flags) (h4 : x.text = y.text) : x = y := by
  cases x; cases y; simp_all
theorem box_ext {x y : Box} (h1 : x.gid = y.gid) (h2 : x.name = y.name) (h3 : x.time = y.time) (h3' : x.who = y.who) (h4 : x.next = y.next) (h5 : x.mails = y.mails) (h6 : x.gone = y.gone) : x = y := by
  cases x; cases y; simp_all

/-! ## mails -/
def smS (a b : Mail) (i : Nat) (x : Nat × Nat × Nat) : St := { t := [(2, .c (.ptr 2 x.1 0 0)), (3, .c (.ptr 3 x.2.1 0 0)), (5, .c (I i))], o := [(2, ⟨x.1, 4, true, true, [encMail a]⟩), (3, ⟨x.2.1, 4, true, true, [encMail b]⟩)], n := x.2.2 }
def smE (a b : Mail) (x : Nat × Nat × Nat) : St := { t := [(2, .c (.ptr 2 x.1 0 0)), (3, .c (.ptr 3 x.2.1 0 0)), (5, .c (I a.flags.length)), (38, .c (.bool false))], o := [(2, ⟨x.1, 4, true, true, [encMail a]⟩), (3, ⟨x.2.1, 4, true, true, [encMail b]⟩)], n := x.2.2 }
theorem spec_SameMail.says (h : spec_SameMail.k M) (a b : Mail) (ha : a.flags.length ≤ 1048576) : run M 159 [.a (encMail a), .a (encMail b)] [] = some (.c (.bool (decide (a = b))), []) := by
  refine run_code (b := spec_SameMail.m) h ⟨a.flags.length + 1, ?_⟩
  by_cases c1 : a.gid = b.gid
  rotate_left
  · have hne : ¬ a = b := fun q => c1 (by rw [q])
    simp [exB, spec_SameMail.m, spec_SameMail.b, List.range_succ, c1, hne]
  by_cases c2 : a.uid = b.uid
  rotate_left
  · have hne : ¬ a = b := fun q => c2 (by rw [q])
    simp [exB, spec_SameMail.m, spec_SameMail.b, List.range_succ, c1, c2, hne]
  by_cases c3 : a.text = b.text
  rotate_left
  · have hne : ¬ a = b := fun q => c3 (by rw [q])
    simp [exB, spec_SameMail.m, spec_SameMail.b, List.range_succ, c1, c2, c3, hne]
  by_cases c4 : a.flags.length = b.flags.length
  rotate_left
  · have hne : ¬ a = b := fun q => c4 (by rw [q])
    have c4' : ¬ (a.flags.length : Int) = b.flags.length := by omega
    simp [exB, spec_SameMail.m, spec_SameMail.b, List.range_succ, c1, c2, c3, c4, c4', hne]
  obtain ⟨g, hr⟩ := eq_loop a.flags b.flags c4 (f := exC (run M) (a.flags.length + 1) spec_SameMail.l0) (smS a b) 4 0 (smE a b)
    (fun i hi hi' x c => by
      obtain ⟨v, w, x⟩ := x
      have e5 : IntKind.i64.wrap ((i : Int) + 1) = (i : Int) + 1 := wrap_i64 (by omega) (by omega)
      simp only [Prod.exists]
      simp [smS, spec_SameMail.l0, hi, hi', e5, encReg, eqL, eqT, c])
    (fun i hi hi' x c => by
      obtain ⟨v, w, x⟩ := x
      by_cases q1 : a.flags[i].val = b.flags[i].val <;> by_cases q2 : a.flags[i].time = b.flags[i].time <;> by_cases q3 : a.flags[i].who = b.flags[i].who <;>
        first
        | exact absurd (reg_ext q1 q2 q3) c
        | simp [smS, spec_SameMail.l0, hi, hi', encReg, eqL, eqT, q1, q2, q3])
    (fun x => by
      obtain ⟨v, w, x⟩ := x
      simp only [Prod.exists]
      simp [smS, smE, spec_SameMail.l0])
  by_cases c5 : a.flags = b.flags
  · have he : a = b := mail_ext c1 c2 c5 c3
    simp only [c5, if_true] at hr
    simp [smS, smE, encMail, ← c5] at hr
    subst he
    simp [exB, spec_SameMail.m, spec_SameMail.b, List.range_succ, hr]
  · have hne : ¬ a = b := fun q => c5 (by rw [q])
    simp only [c5, if_false] at hr
    simp [smS, smE, encMail, c1, c2, c3, c4] at hr
    simp [exB, spec_SameMail.m, spec_SameMail.b, List.range_succ, encMail, c1, c2, c3, c4, hr, hne]

def seS (a b : List Reg) (i : Nat) (x : Nat) : St := { t := [(0, .c (regs a)), (1, .c (regs b)), (12, .c (I a.length)), (13, .c (I i))], o := [], n := x }
def seE (a b : List Reg) (x : Nat) : St := { t := [(0, .c (regs a)), (1, .c (regs b)), (12, .c (I a.length)), (13, .c (I a.length)), (14, .c (.bool false))], o := [], n := x }
theorem slices_Equal_impl_Reg_impl_Reg.says (h : slices_Equal_impl_Reg_impl_Reg.k M) (a b : List Reg) (ha : a.length ≤ 1048576) : run M 253 [.c (regs a), .c (regs b)] [] = some (.c (.bool (decide (a = b))), []) := by
  refine run_code (b := slices_Equal_impl_Reg_impl_Reg.m) h ⟨a.length + 1, ?_⟩
  by_cases c4 : a.length = b.length
  rotate_left
  · have hne : ¬ a = b := fun q => c4 (by rw [q])
    have c4' : ¬ (a.length : Int) = b.length := by omega
    simp [exB, slices_Equal_impl_Reg_impl_Reg.m, slices_Equal_impl_Reg_impl_Reg.b, List.range_succ, c4, c4', hne]
  obtain ⟨g, hr⟩ := eq_loop a b c4 (f := exC (run M) (a.length + 1) slices_Equal_impl_Reg_impl_Reg.l0) (seS a b) 4 0 (seE a b)
    (fun i hi hi' x c => by
      have e5 : IntKind.i64.wrap ((i : Int) + 1) = (i : Int) + 1 := wrap_i64 (by omega) (by omega)
      simp [seS, slices_Equal_impl_Reg_impl_Reg.l0, hi, hi', e5, encReg, eqL, eqT, c])
    (fun i hi hi' x c => by
      by_cases q1 : a[i].val = b[i].val <;> by_cases q2 : a[i].time = b[i].time <;> by_cases q3 : a[i].who = b[i].who <;>
        first
        | exact absurd (reg_ext q1 q2 q3) c
        | simp [seS, slices_Equal_impl_Reg_impl_Reg.l0, hi, hi', encReg, eqL, eqT, q1, q2, q3])
    (fun x => by simp [seS, seE, slices_Equal_impl_Reg_impl_Reg.l0])
  by_cases c5 : a = b
  · subst c5
    simp [seS, seE] at hr
    simp [exB, slices_Equal_impl_Reg_impl_Reg.m, slices_Equal_impl_Reg_impl_Reg.b, List.range_succ, hr]
  · simp [seS, seE, c5] at hr
    simp only [c4] at hr
    simp [exB, slices_Equal_impl_Reg_impl_Reg.m, slices_Equal_impl_Reg_impl_Reg.b, List.range_succ, hr, c4, c5]
def alsS (a b : List Int) (i : Nat) (x : Nat) : St := { t := [(0, .c (ints a)), (1, .c (ints b)), (12, .c (I a.length)), (13, .c (I i))], o := [], n := x }
def alsE (a b : List Int) (x : Nat) : St := { t := [(0, .c (ints a)), (1, .c (ints b)), (12, .c (I a.length)), (13, .c (I a.length)), (14, .c (.bool false))], o := [], n := x }
theorem slices_Equal_int_int.says (h : slices_Equal_int_int.k M) (a b : List Int) (ha : a.length ≤ 1048576) : run M 120 [.c (ints a), .c (ints b)] [] = some (.c (.bool (decide (a = b))), []) := by
  refine run_code (b := slices_Equal_int_int.m) h ⟨a.length + 1, ?_⟩
  by_cases c4 : a.length = b.length
  rotate_left
  · have hne : ¬ a = b := fun q => c4 (by rw [q])
    have c4' : ¬ (a.length : Int) = b.length := by omega
    simp [exB, slices_Equal_int_int.m, slices_Equal_int_int.b, List.range_succ, c4, c4', hne]
  obtain ⟨g, hr⟩ := eq_loop a b c4 (f := exC (run M) (a.length + 1) slices_Equal_int_int.l0) (alsS a b) 4 0 (alsE a b)
    (fun i hi hi' x c => by
      have e5 : IntKind.i64.wrap ((i : Int) + 1) = (i : Int) + 1 := wrap_i64 (by omega) (by omega)
      simp [alsS, slices_Equal_int_int.l0, hi, hi', e5, c])
    (fun i hi hi' x c => by simp [alsS, slices_Equal_int_int.l0, hi, hi', c])
    (fun x => by simp [alsS, alsE, slices_Equal_int_int.l0])
  by_cases c5 : a = b
  · subst c5
    simp [alsS, alsE] at hr
    simp [exB, slices_Equal_int_int.m, slices_Equal_int_int.b, List.range_succ, hr]
  · simp [alsS, alsE, c5] at hr
    simp only [c4] at hr
    simp [exB, slices_Equal_int_int.m, slices_Equal_int_int.b, List.range_succ, hr, c4, c5]
theorem impl_SameMail.says (h : impl_SameMail.k M) (a b : Mail) (ha : a.flags.length ≤ 1048576) : run M 212 [.a (encMail a), .a (encMail b)] [] = some (.c (.bool (decide (a = b))), []) := by
  have h1 := slices_Equal_impl_Reg_impl_Reg.says h.2 a.flags b.flags ha
  refine run_code (b := impl_SameMail.m) h.1 ⟨0, ?_⟩
  by_cases c1 : a.gid = b.gid
  rotate_left
  · have hne : ¬ a = b := fun q => c1 (by rw [q])
    simp [exB, impl_SameMail.m, impl_SameMail.b, List.range_succ, c1, hne]
  by_cases c2 : a.uid = b.uid
  rotate_left
  · have hne : ¬ a = b := fun q => c2 (by rw [q])
    simp [exB, impl_SameMail.m, impl_SameMail.b, List.range_succ, c1, c2, hne]
  by_cases c5 : a.flags = b.flags
  rotate_left
  · have hne : ¬ a = b := fun q => c5 (by rw [q])
    simp only [c5, decide_false] at h1
    simp [exB, impl_SameMail.m, impl_SameMail.b, List.range_succ, c1, c2, h1, hne]
  simp only [c5, decide_true] at h1
  by_cases c3 : a.text = b.text
  · have he : a = b := mail_ext c1 c2 c5 c3
    subst he
    simp [exB, impl_SameMail.m, impl_SameMail.b, List.range_succ, h1]
  · have hne : ¬ a = b := fun q => c3 (by rw [q])
    simp [exB, impl_SameMail.m, impl_SameMail.b, List.range_succ, c1, c2, c3, c5, h1, hne]
end Mx

/-
  A box is the same as itself.
-/
namespace Mx
open Go
variable {M : Nat → Option Body}
def sanS (l : List Int) (i : Nat) (x : Nat) : St := { t := [(0, .c (ints l)), (1, .c (ints l)), (5, .c (I i))], o := [], n := x }
def sanE (l : List Int) (x : Nat) : St := { t := [(0, .c (ints l)), (1, .c (ints l)), (5, .c (I l.length)), (14, .c (.bool false))], o := [], n := x }
theorem laws_sameInts.self (h : laws_sameInts.k M) (l : List Int) (hl : l.length ≤ 1048576) : run M 158 [.c (ints l), .c (ints l)] [] = some (.c (.bool true), []) := by
  refine run_code (b := laws_sameInts.m) h ⟨l.length + 1, ?_⟩
  obtain ⟨g, hr⟩ := count_loop (f := exC (run M) (l.length + 1) laws_sameInts.l0) l.length (sanS l) 0 (sanE l)
    (fun i hi x => by
      have e3 : IntKind.i64.wrap ((i : Int) + 1) = (i : Int) + 1 := wrap_i64 (by omega) (by omega)
      have e8 := irow_length l
      have e9 : (irow l)[i]'(by rw [e8]; exact hi) = [I l[i]] := by simp [irow]
      simp only [sanS, ints]
      generalize irow l = r at *
      simp (maxSteps := 1000000) [laws_sameInts.l0, List.range_succ, bs_get, setAt, hi, e3, e8, e9])
    (fun x => by
      have e8 := irow_length l
      simp only [sanS, sanE, ints]
      generalize irow l = r at *
      simp (maxSteps := 1000000) [laws_sameInts.l0, List.range_succ, bs_get, setAt, e8])
  have e8 := irow_length l
  simp only [sanS, sanE, ints] at hr ⊢
  generalize irow l = r at *
  simp at hr
  simp (maxSteps := 1000000) [exB, laws_sameInts.m, laws_sameInts.b, List.range_succ, bs_get, setAt, hr, e8]
def sbO (b : Box) (x : Nat × Nat) : List (Nat × Ob) := [(2, ⟨x.1, 7, true, true, [encBox b]⟩), (3, ⟨x.2, 7, true, true, [encBox b]⟩)]
def sbS (b : Box) (i : Nat) (x : (Nat × Nat) × Nat) : St := { t := [(2, .c (.ptr 2 x.1.1 0 0)), (3, .c (.ptr 3 x.1.2 0 0)), (5, .c (I i))], o := sbO b x.1, n := x.2 }
def sbE (b : Box) (x : (Nat × Nat) × Nat) : St := { t := [(2, .c (.ptr 2 x.1.1 0 0)), (3, .c (.ptr 3 x.1.2 0 0)), (5, .c (I b.mails.length)), (53, .c (.bool false))], o := sbO b x.1, n := x.2 }
theorem laws_sameBox.self (h : laws_sameBox.k M) (b : Box) (hb : BoxIn b) : run M 71 [.a (encBox b), .a (encBox b)] [] = some (.c (.bool true), []) := by
  obtain ⟨h0, k1, k2⟩ := h
  have h1 := laws_sameInts.self k1 b.gone hb.g
  have hm := hb.m
  refine run_code (b := laws_sameBox.m) h0 ⟨b.mails.length + 1, ?_⟩
  have e7 : (b.mails.map encMail).length = b.mails.length := by simp
  have e8 := irow_length b.gone
  obtain ⟨g, hr⟩ := count_loop (f := exC (run M) (b.mails.length + 1) laws_sameBox.l0) b.mails.length (sbS b) 0 (sbE b)
    (fun i hi x => by
      obtain ⟨⟨v1, v2⟩, n⟩ := x
      have h2 := spec_SameMail.says k2 b.mails[i] b.mails[i] (hb.f _ (List.getElem_mem hi))
      rw [decide_eq_true rfl] at h2
      have e3 : IntKind.i64.wrap ((i : Int) + 1) = (i : Int) + 1 := wrap_i64 (by omega) (by omega)
      have hat : (b.mails.map encMail)[i]'(by rw [e7]; exact hi) = [I b.mails[i].gid, I b.mails[i].uid, regs b.mails[i].flags, S b.mails[i].text] := by rw [List.getElem_map]
      simp only [encMail] at h2
      simp only [sbS, sbO, encBox, mails, Prod.exists]
      generalize b.mails.map encMail = rm at *
      simp (maxSteps := 1000000) [laws_sameBox.l0, List.range_succ, bs_get, setAt, hi, h2, e3, e7, hat])
    (fun x => by
      obtain ⟨⟨v1, v2⟩, n⟩ := x
      simp only [sbS, sbE, sbO, encBox, mails, Prod.exists]
      generalize b.mails.map encMail = rm at *
      simp (maxSteps := 1000000) [laws_sameBox.l0, List.range_succ, bs_get, setAt, e7])
  simp only [sbS, sbE, sbO] at hr
  replace hr := fun a c n => hr ⟨⟨a, c⟩, n⟩
  simp only [encBox, mails, ints] at *
  generalize b.mails.map encMail = rm at *
  generalize irow b.gone = rg at *
  simp at hr
  simp (maxSteps := 1000000) [exB, laws_sameBox.m, laws_sameBox.b, List.range_succ, bs_get, setAt, hr, h1, e7, e8]
end Mx

/-
  Right boxes: what the law of boxes asks for.
-/
namespace Mx
open Go
def added (b : Box) (g f : Int) (x : List UInt8) (t w : Int) : Box := { b with mails := b.mails ++ [⟨g, b.next, flagsNew f t w, x⟩], next := b.next + 1 }
theorem flagsNew_ok (f t w : Int) (h : stampOk t w = true) : flagsOk (flagsNew f t w) = true := by
  refine flagsOk_iff.2 ⟨rfl, fun r hr => ?_⟩
  simp only [flagsNew, List.mem_cons, List.not_mem_nil, or_false] at hr
  rcases hr with rfl | rfl | rfl
  · have := bitOf_range f 0
    exact ⟨by simp only [regOk, h, Bool.true_and]; exact inR_iff.2 ⟨this.1, by omega⟩, this.2⟩
  · have := bitOf_range f 1
    exact ⟨by simp only [regOk, h, Bool.true_and]; exact inR_iff.2 ⟨this.1, by omega⟩, this.2⟩
  · have := bitOf_range f 2
    exact ⟨by simp only [regOk, h, Bool.true_and]; exact inR_iff.2 ⟨this.1, by omega⟩, this.2⟩
theorem good_added {b : Box} (h : Good b) {g f : Int} {x : List UInt8} {t w : Int} (hg : 1 ≤ g ∧ g ≤ 9999) (h1 : ∀ m ∈ b.mails, m.gid ≠ g) (h2 : ¬ g ∈ b.gone) (hx : x.length ≤ 60) (hs : stampOk t w = true)
    (hl : b.mails.length < 10) (hn : b.next ≤ 9999) : Good (added b g f x t w) := by
  have hm : mailOk ⟨g, b.next, flagsNew f t w, x⟩ = true := by
    simp only [mailOk, Bool.and_eq_true, decide_eq_true_eq]
    exact ⟨⟨⟨inR_iff.2 hg, inR_iff.2 ⟨h.next.1, hn⟩⟩, flagsNew_ok f t w hs⟩, hx⟩
  refine ⟨h.gid, h.name, h.st, ?_, by simp only [added, List.length_append, List.length_singleton]; omega, h.gone, h.goneR, h.goneL, fun m hm' => ?_, ?_, ?_⟩
  · have := h.next; simp only [added]; omega
  · rcases List.mem_append.1 hm' with q | q
    · have := h.mail m q
      exact ⟨this.1, by have := this.2.1; simp only [added]; omega, this.2.2⟩
    · simp only [List.mem_singleton] at q
      subst q
      exact ⟨hm, by simp only [added]; omega, h2⟩
  · refine List.pairwise_append.2 ⟨h.uids, List.pairwise_singleton _ _, fun a ha c hc => ?_⟩
    simp only [List.mem_singleton] at hc
    subst hc
    exact (h.mail a ha).2.1
  · refine List.pairwise_append.2 ⟨h.gids, List.pairwise_singleton _ _, fun a ha c hc => ?_⟩
    simp only [List.mem_singleton] at hc
    subst hc
    exact h1 a ha
theorem add_yes {b : Box} (h : Good b) {g f : Int} {x : List UInt8} {t w : Int} (hg : 1 ≤ g ∧ g ≤ 9999) (h1 : ∀ m ∈ b.mails, m.gid ≠ g) (h2 : ¬ g ∈ b.gone) (hf : 0 ≤ f ∧ f ≤ 7) (hx : x.length ≤ 60) (hs : stampOk t w = true)
    (hl : b.mails.length < 10) (hn : b.next ≤ 9999) : addMail b g f x t w = (added b g f x t w, true) := by
  unfold addMail
  rw [if_pos ⟨boxOk_iff.2 h, mailO_none.2 h1, h2, inR_iff.2 hf, boxOk_iff.2 (good_added h hg h1 h2 hx hs hl hn)⟩]
  rfl
theorem add_full {b : Box} {g f : Int} {x : List UInt8} {t w : Int} (hl : ¬ b.mails.length < 10) : addMail b g f x t w = (b, false) := by
  unfold addMail
  rw [if_neg]
  rintro ⟨_, _, _, _, h⟩
  have := (boxOk_iff.1 h).len
  simp at this; omega
theorem add_there {b : Box} {g f : Int} {x : List UInt8} {t w : Int} {k : Nat} (hk : mailO b.mails g = some k) : addMail b g f x t w = (b, false) := by
  unfold addMail
  rw [if_neg]
  rintro ⟨_, h, _⟩
  rw [hk] at h; cases h
theorem add_gone {b : Box} {g f : Int} {x : List UInt8} {t w : Int} (hk : g ∈ b.gone) : addMail b g f x t w = (b, false) := by
  unfold addMail
  rw [if_neg]
  rintro ⟨_, _, h, _⟩
  exact h hk
theorem mailO_added {b : Box} {g f : Int} {x : List UInt8} {t w : Int} (h1 : ∀ m ∈ b.mails, m.gid ≠ g) : mailO (added b g f x t w).mails g = some b.mails.length := by
  have hk : b.mails.length < (added b g f x t w).mails.length := by simp [added]
  have hat : (added b g f x t w).mails[b.mails.length].gid = g := by simp [added]
  have := mailO_at hk fun j hj => by
    rw [hat]
    have : (added b g f x t w).mails[j]'(by omega) = b.mails[j] := by simp only [added]; rw [List.getElem_append_left hj]
    rw [this]
    exact h1 _ (List.getElem_mem hj)
  rw [hat] at this
  exact this
/-- the new mail is taken out again -/
theorem take_added {b : Box} (h : Good b) {g f : Int} {x : List UInt8} {t w : Int} (hg : 1 ≤ g ∧ g ≤ 9999) (h1 : ∀ m ∈ b.mails, m.gid ≠ g) (h2 : ¬ g ∈ b.gone) (hx : x.length ≤ 60) (hs : stampOk t w = true)
    (hl : b.mails.length < 10) (hn : b.next ≤ 9999) (h40 : b.gone.length < 40) : takeOut (added b g f x t w) g = ({ b with next := b.next + 1, gone := gput b.gone g }, true) ∧ Good { b with next := b.next + 1, gone := gput b.gone g } := by
  have hG := good_added (f := f) h hg h1 h2 hx hs hl hn
  have hk : b.mails.length < (added b g f x t w).mails.length := by simp [added]
  have hT := good_take hG hk h40
  have hat : (added b g f x t w).mails[b.mails.length].gid = g := by simp [added]
  have e : (added b g f x t w).mails.take b.mails.length ++ (added b g f x t w).mails.drop (b.mails.length + 1) = b.mails := by simp [added]
  rw [e, hat] at hT
  refine ⟨?_, hT⟩
  unfold takeOut
  rw [mailO_added h1]
  simp only
  rw [if_pos ⟨boxOk_iff.2 hG, h40⟩, e]
  rfl
end Mx

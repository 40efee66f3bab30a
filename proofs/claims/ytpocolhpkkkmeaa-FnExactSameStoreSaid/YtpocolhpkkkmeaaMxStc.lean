/-
  Small codes: spec.l02Four, impl.four, spec.SumMore, spec.SumOf, impl.SumMore, impl.SumOf, spec.Sealed, impl.Sealed, spec.Unsealed, impl.fourAt, impl.Unsealed.
-/
import Derived.Test.YtpocolhpkkkmeaaMxSt
import Derived.Test.YtpocolhpkkkmeaaMxB
import Derived.Test.YtpocolhpkkkmeaaMxStb
set_option linter.unusedSimpArgs false
set_option linter.unusedVariables false
namespace Mx
open Go
def spec_l02Four.b : C := .seq (.reg [⟨some 2, .mv (.k (.str ⟨#[]⟩)), none⟩] [0] [])
  (.seq (.reg [⟨some 3, .mv (.t 0), none⟩,
    ⟨some 4, .bin .shr (.t 3) (.k (.int .u64 24)), none⟩,
    ⟨some 5, .i2i .u8 (.t 4), none⟩,
    ⟨some 6, .mv (.t 0), none⟩,
    ⟨some 7, .bin .shr (.t 6) (.k (.int .u64 16)), none⟩,
    ⟨some 8, .i2i .u8 (.t 7), none⟩,
    ⟨some 9, .mv (.t 0), none⟩,
    ⟨some 10, .bin .shr (.t 9) (.k (.int .u64 8)), none⟩,
    ⟨some 11, .i2i .u8 (.t 10), none⟩,
    ⟨some 12, .mv (.t 0), none⟩,
    ⟨some 13, .i2i .u8 (.t 12), none⟩,
    ⟨some 14, .bslice 1 4 [.int .u8 0] [(0, .t 5), (1, .t 8), (2, .t 11), (3, .t 13)], none⟩,
    ⟨some 15, .b2s (.t 14), none⟩,
    ⟨some 2, .mv (.t 15), none⟩] [2] [])
  (.ret))
def spec_l02Four.m : Fn := { np := 1, body := spec_l02Four.b, res := [.tmp 2] }
def spec_l02Four.k (M : Nat → Option Body) : Prop := M 202 = some (.code spec_l02Four.m)
def impl_four.b : C := .seq (.reg [⟨some 2, .mv (.k (.str ⟨#[]⟩)), none⟩] [0] [])
  (.seq (.reg [⟨some 3, .mv (.t 0), none⟩,
    ⟨some 4, .bin .shr (.t 3) (.k (.int .u64 24)), none⟩,
    ⟨some 5, .i2i .u8 (.t 4), none⟩,
    ⟨some 6, .mv (.t 0), none⟩,
    ⟨some 7, .bin .shr (.t 6) (.k (.int .u64 16)), none⟩,
    ⟨some 8, .i2i .u8 (.t 7), none⟩,
    ⟨some 9, .mv (.t 0), none⟩,
    ⟨some 10, .bin .shr (.t 9) (.k (.int .u64 8)), none⟩,
    ⟨some 11, .i2i .u8 (.t 10), none⟩,
    ⟨some 12, .mv (.t 0), none⟩,
    ⟨some 13, .i2i .u8 (.t 12), none⟩,
    ⟨some 14, .bslice 1 4 [.int .u8 0] [(0, .t 5), (1, .t 8), (2, .t 11), (3, .t 13)], none⟩,
    ⟨some 15, .b2s (.t 14), none⟩,
    ⟨some 2, .mv (.t 15), none⟩] [2] [])
  (.ret))
def impl_four.m : Fn := { np := 1, body := impl_four.b, res := [.tmp 2] }
def impl_four.k (M : Nat → Option Body) : Prop := M 204 = some (.code impl_four.m)
def spec_SumMore.l1 : C := .seq (.seq (.reg [⟨some 20, .mv (.t 6), none⟩,
    ⟨some 21, .bin .lss (.t 20) (.k (.int .i64 8)), none⟩] [0, 1, 5, 6, 21] [])
  (.cond (.t 21) (.skip) (.exit 2)))
  (.seq (.block 3 (.seq (.reg [⟨some 24, .mv (.t 0), none⟩,
    ⟨some 25, .bin .rem (.t 24) (.k (.int .u32 2)), none⟩,
    ⟨some 26, .bin .eql (.t 25) (.k (.int .u32 1)), none⟩,
    ⟨some 7, .mv (.t 26), none⟩] [0, 1, 5, 6, 7] [])
  (.seq (.reg [⟨some 27, .mv (.t 0), none⟩,
    ⟨some 28, .bin .quo (.t 27) (.k (.int .u32 2)), none⟩,
    ⟨some 0, .mv (.t 28), none⟩] [0, 1, 5, 6, 7] [])
  (.seq (.reg [⟨some 29, .mv (.t 7), none⟩] [0, 1, 5, 6, 29] [])
  (.cond (.t 29) (.reg [⟨some 30, .mv (.t 0), none⟩,
    ⟨some 31, .bin .xor (.t 30) (.k (.int .u32 3558460437)), none⟩,
    ⟨some 0, .mv (.t 31), none⟩] [0, 1, 5, 6] []) (.skip))))))
  (.reg [⟨some 22, .mv (.t 6), none⟩,
    ⟨some 23, .bin .add (.t 22) (.k (.int .i64 1)), none⟩,
    ⟨some 6, .mv (.t 23), none⟩] [0, 1, 5, 6] []))
def spec_SumMore.l0 : C := .seq (.seq (.reg [⟨some 8, .mv (.t 5), none⟩,
    ⟨some 9, .mv (.t 1), none⟩,
    ⟨some 10, .slen (.t 9), none⟩,
    ⟨some 11, .bin .lss (.t 8) (.t 10), none⟩] [0, 1, 5, 11] [])
  (.cond (.t 11) (.skip) (.exit 0)))
  (.seq (.block 1 (.seq (.reg [⟨some 14, .mv (.t 0), none⟩,
    ⟨some 15, .mv (.t 1), none⟩,
    ⟨some 16, .mv (.t 5), none⟩,
    ⟨some 17, .idx (.t 15) (.t 16), none⟩,
    ⟨some 18, .i2i .u32 (.t 17), none⟩,
    ⟨some 19, .bin .xor (.t 14) (.t 18), none⟩,
    ⟨some 0, .mv (.t 19), none⟩] [0, 1, 5] [])
  (.seq (.reg [⟨some 6, .mv (.k (.int .i64 0)), none⟩] [0, 1, 5, 6] [])
  (.block 2 (.loop spec_SumMore.l1)))))
  (.reg [⟨some 12, .mv (.t 5), none⟩,
    ⟨some 13, .bin .add (.t 12) (.k (.int .i64 1)), none⟩,
    ⟨some 5, .mv (.t 13), none⟩] [0, 1, 5] []))
def spec_SumMore.b : C := .seq (.reg [⟨some 4, .mv (.k (.int .u32 0)), none⟩] [0, 1] [])
  (.seq (.seq (.reg [⟨some 5, .mv (.k (.int .i64 0)), none⟩] [0, 1, 5] [])
  (.block 0 (.loop spec_SumMore.l0)))
  (.seq (.reg [⟨some 32, .mv (.t 0), none⟩,
    ⟨some 4, .mv (.t 32), none⟩] [4] [])
  (.ret)))
def spec_SumMore.m : Fn := { np := 2, body := spec_SumMore.b, res := [.tmp 4] }
def spec_SumMore.k (M : Nat → Option Body) : Prop := M 248 = some (.code spec_SumMore.m)
def spec_SumOf.b : C := .seq (.reg [⟨some 2, .mv (.k (.int .u32 0)), none⟩] [0] [])
  (.seq (.reg [⟨some 3, .mv (.t 0), none⟩,
    ⟨some 4, .call 248 [.k (.int .u32 4294967295), .t 3] [] [], none⟩,
    ⟨some 2, .mv (.t 4), none⟩] [2] [])
  (.ret))
def spec_SumOf.m : Fn := { np := 1, body := spec_SumOf.b, res := [.tmp 2] }
def spec_SumOf.k (M : Nat → Option Body) : Prop := M 201 = some (.code spec_SumOf.m) ∧ spec_SumMore.k M
def impl_SumMore.l1 : C := .seq (.reg [⟨some 20, .bin .lss (.t 19) (.k (.int .i64 8)), none⟩] [0, 1, 5, 19, 20] [])
  (.seq (.cond (.t 20) (.skip) (.exit 2))
  (.seq (.block 3 (.seq (.reg [⟨some 21, .mv (.t 0), none⟩,
    ⟨some 22, .bin .and (.t 21) (.k (.int .u32 1)), none⟩,
    ⟨some 6, .mv (.t 22), none⟩] [0, 1, 5, 6, 19] [])
  (.seq (.reg [⟨some 23, .mv (.t 0), none⟩,
    ⟨some 24, .bin .shr (.t 23) (.k (.int .u64 1)), none⟩,
    ⟨some 0, .mv (.t 24), none⟩] [0, 1, 5, 6, 19] [])
  (.seq (.reg [⟨some 25, .mv (.t 6), none⟩,
    ⟨some 26, .bin .eql (.t 25) (.k (.int .u32 1)), none⟩] [0, 1, 5, 19, 26] [])
  (.cond (.t 26) (.reg [⟨some 27, .mv (.t 0), none⟩,
    ⟨some 28, .bin .xor (.t 27) (.k (.int .u32 3558460437)), none⟩,
    ⟨some 0, .mv (.t 28), none⟩] [0, 1, 5, 19] []) (.skip))))))
  (.reg [⟨some 29, .bin .add (.t 19) (.k (.int .i64 1)), none⟩,
    ⟨some 19, .mv (.t 29), none⟩] [0, 1, 5, 19] [])))
def impl_SumMore.l0 : C := .seq (.seq (.reg [⟨some 7, .mv (.t 5), none⟩,
    ⟨some 8, .mv (.t 1), none⟩,
    ⟨some 9, .slen (.t 8), none⟩,
    ⟨some 10, .bin .lss (.t 7) (.t 9), none⟩] [0, 1, 5, 10] [])
  (.cond (.t 10) (.skip) (.exit 0)))
  (.seq (.block 1 (.seq (.reg [⟨some 13, .mv (.t 0), none⟩,
    ⟨some 14, .mv (.t 1), none⟩,
    ⟨some 15, .mv (.t 5), none⟩,
    ⟨some 16, .idx (.t 14) (.t 15), none⟩,
    ⟨some 17, .i2i .u32 (.t 16), none⟩,
    ⟨some 18, .bin .xor (.t 13) (.t 17), none⟩,
    ⟨some 0, .mv (.t 18), none⟩] [0, 1, 5] [])
  (.seq (.reg [⟨some 19, .mv (.k (.int .i64 0)), none⟩] [0, 1, 5, 19] [])
  (.block 2 (.loop impl_SumMore.l1)))))
  (.reg [⟨some 11, .mv (.t 5), none⟩,
    ⟨some 12, .bin .add (.t 11) (.k (.int .i64 1)), none⟩,
    ⟨some 5, .mv (.t 12), none⟩] [0, 1, 5] []))
def impl_SumMore.b : C := .seq (.reg [⟨some 4, .mv (.k (.int .u32 0)), none⟩] [0, 1] [])
  (.seq (.seq (.reg [⟨some 5, .mv (.k (.int .i64 0)), none⟩] [0, 1, 5] [])
  (.block 0 (.loop impl_SumMore.l0)))
  (.seq (.reg [⟨some 30, .mv (.t 0), none⟩,
    ⟨some 4, .mv (.t 30), none⟩] [4] [])
  (.ret)))
def impl_SumMore.m : Fn := { np := 2, body := impl_SumMore.b, res := [.tmp 4] }
def impl_SumMore.k (M : Nat → Option Body) : Prop := M 249 = some (.code impl_SumMore.m)
def impl_SumOf.b : C := .seq (.reg [⟨some 2, .mv (.k (.int .u32 0)), none⟩] [0] [])
  (.seq (.reg [⟨some 3, .mv (.t 0), none⟩,
    ⟨some 4, .call 249 [.k (.int .u32 4294967295), .t 3] [] [], none⟩,
    ⟨some 2, .mv (.t 4), none⟩] [2] [])
  (.ret))
def impl_SumOf.m : Fn := { np := 1, body := impl_SumOf.b, res := [.tmp 2] }
def impl_SumOf.k (M : Nat → Option Body) : Prop := M 203 = some (.code impl_SumOf.m) ∧ impl_SumMore.k M
def spec_Sealed.b : C := .seq (.reg [⟨some 2, .mv (.k (.str ⟨#[]⟩)), none⟩,
    ⟨some 3, .mv (.k (.bool false)), none⟩] [0] [])
  (.seq (.seq (.reg [⟨some 4, .mv (.t 0), none⟩,
    ⟨some 5, .slen (.t 4), none⟩,
    ⟨some 6, .bin .gtr (.t 5) (.k (.int .i64 20000)), none⟩] [0, 6] [])
  (.cond (.t 6) (.seq (.reg [⟨some 2, .mv (.k (.str ⟨#[]⟩)), none⟩,
    ⟨some 3, .mv (.k (.bool false)), none⟩] [2, 3] [])
  (.ret)) (.skip)))
  (.seq (.reg [⟨some 7, .mv (.t 0), none⟩,
    ⟨some 8, .mv (.t 0), none⟩,
    ⟨some 9, .call 201 [.t 8] [] [], none⟩,
    ⟨some 10, .call 202 [.t 9] [] [], none⟩,
    ⟨some 11, .bin .add (.t 7) (.t 10), none⟩,
    ⟨some 2, .mv (.t 11), none⟩,
    ⟨some 3, .mv (.k (.bool true)), none⟩] [2, 3] [])
  (.ret)))
def spec_Sealed.m : Fn := { np := 1, body := spec_Sealed.b, res := [.tmp 2, .tmp 3] }
def spec_Sealed.k (M : Nat → Option Body) : Prop := M 100 = some (.code spec_Sealed.m) ∧ spec_SumOf.k M ∧ spec_l02Four.k M
def impl_Sealed.b : C := .seq (.reg [⟨some 2, .mv (.k (.str ⟨#[]⟩)), none⟩,
    ⟨some 3, .mv (.k (.bool false)), none⟩] [0] [])
  (.seq (.seq (.reg [⟨some 4, .mv (.t 0), none⟩,
    ⟨some 5, .slen (.t 4), none⟩,
    ⟨some 6, .bin .gtr (.t 5) (.k (.int .i64 20000)), none⟩] [0, 6] [])
  (.cond (.t 6) (.seq (.reg [⟨some 2, .mv (.k (.str ⟨#[]⟩)), none⟩,
    ⟨some 3, .mv (.k (.bool false)), none⟩] [2, 3] [])
  (.ret)) (.skip)))
  (.seq (.reg [⟨some 7, .mv (.t 0), none⟩,
    ⟨some 8, .mv (.t 0), none⟩,
    ⟨some 9, .call 203 [.t 8] [] [], none⟩,
    ⟨some 10, .i2i .i64 (.t 9), none⟩,
    ⟨some 11, .call 204 [.t 10] [] [], none⟩,
    ⟨some 12, .bin .add (.t 7) (.t 11), none⟩,
    ⟨some 2, .mv (.t 12), none⟩,
    ⟨some 3, .mv (.k (.bool true)), none⟩] [2, 3] [])
  (.ret)))
def impl_Sealed.m : Fn := { np := 1, body := impl_Sealed.b, res := [.tmp 2, .tmp 3] }
def impl_Sealed.k (M : Nat → Option Body) : Prop := M 103 = some (.code impl_Sealed.m) ∧ impl_SumOf.k M ∧ impl_four.k M
def spec_Unsealed.b : C := .seq (.reg [⟨some 2, .mv (.k (.str ⟨#[]⟩)), none⟩,
    ⟨some 3, .mv (.k (.bool false)), none⟩] [0] [])
  (.seq (.reg [⟨some 5, .mv (.t 0), none⟩,
    ⟨some 6, .slen (.t 5), none⟩,
    ⟨some 7, .bin .sub (.t 6) (.k (.int .i64 4)), none⟩,
    ⟨some 4, .mv (.t 7), none⟩] [0, 4] [])
  (.seq (.seq (.regd [⟨some 8, .mv (.t 4), none⟩,
    ⟨some 9, .bin .lss (.t 8) (.k (.int .i64 0)), none⟩,
    ⟨some 10, .mv (.t 9), none⟩,
    ⟨some 11, .mv (.t 4), some (10, false)⟩,
    ⟨some 12, .bin .gtr (.t 11) (.k (.int .i64 20000)), some (10, false)⟩,
    ⟨some 13, .pick (.t 10) (.k (.bool true)) (.t 12), none⟩,
    ⟨some 14, .mv (.t 13), none⟩,
    ⟨some 15, .mv (.t 0), some (14, false)⟩,
    ⟨some 16, .mv (.t 4), some (14, false)⟩,
    ⟨some 17, .sstr (.t 15) (some (.t 16)) none, some (14, false)⟩,
    ⟨some 18, .mv (.t 0), some (14, false)⟩,
    ⟨some 19, .mv (.t 4), some (14, false)⟩,
    ⟨some 20, .sstr (.t 18) none (some (.t 19)), some (14, false)⟩,
    ⟨some 21, .call 201 [.t 20] [] [], some (14, false)⟩,
    ⟨some 22, .call 202 [.t 21] [] [], some (14, false)⟩,
    ⟨some 23, .bin .neq (.t 17) (.t 22), some (14, false)⟩,
    ⟨some 24, .pick (.t 14) (.k (.bool true)) (.t 23), none⟩] [[], [0], [0, 1], [0, 1, 2], [0, 1, 2, 3], [0, 1, 2, 3, 4], [0, 1, 2, 3, 4, 5], [0, 1, 2, 3, 4, 5, 6], [0, 1, 2, 3, 4, 5, 6], [0, 1, 2, 3, 4, 5, 6, 7, 8], [0, 1, 2, 3, 4, 5, 6], [0, 1, 2, 3, 4, 5, 6], [0, 1, 2, 3, 4, 5, 6, 10, 11], [0, 1, 2, 3, 4, 5, 6, 10, 11, 12], [0, 1, 2, 3, 4, 5, 6, 10, 11, 12, 13], [0, 1, 2, 3, 4, 5, 6, 7, 8, 9, 10, 11, 12, 13, 14], [0, 1, 2, 3, 4, 5, 6, 7, 8, 9, 10, 11, 12, 13, 14, 15]] [0, 4, 24] [])
  (.cond (.t 24) (.seq (.reg [⟨some 2, .mv (.k (.str ⟨#[]⟩)), none⟩,
    ⟨some 3, .mv (.k (.bool false)), none⟩] [2, 3] [])
  (.ret)) (.skip)))
  (.seq (.reg [⟨some 25, .mv (.t 0), none⟩,
    ⟨some 26, .mv (.t 4), none⟩,
    ⟨some 27, .sstr (.t 25) none (some (.t 26)), none⟩,
    ⟨some 2, .mv (.t 27), none⟩,
    ⟨some 3, .mv (.k (.bool true)), none⟩] [2, 3] [])
  (.ret))))
def spec_Unsealed.m : Fn := { np := 1, body := spec_Unsealed.b, res := [.tmp 2, .tmp 3] }
def spec_Unsealed.k (M : Nat → Option Body) : Prop := M 167 = some (.code spec_Unsealed.m) ∧ spec_SumOf.k M ∧ spec_l02Four.k M
def impl_fourAt.b : C := .seq (.reg [⟨some 4, .mv (.k (.int .i64 0)), none⟩] [0, 1] [])
  (.seq (.regd [⟨some 5, .mv (.t 0), none⟩,
    ⟨some 6, .mv (.t 1), none⟩,
    ⟨some 7, .idx (.t 5) (.t 6), none⟩,
    ⟨some 8, .i2i .i64 (.t 7), none⟩,
    ⟨some 9, .bin .shl (.t 8) (.k (.int .u64 24)), none⟩,
    ⟨some 10, .mv (.t 0), none⟩,
    ⟨some 11, .mv (.t 1), none⟩,
    ⟨some 12, .bin .add (.t 11) (.k (.int .i64 1)), none⟩,
    ⟨some 13, .idx (.t 10) (.t 12), none⟩,
    ⟨some 14, .i2i .i64 (.t 13), none⟩,
    ⟨some 15, .bin .shl (.t 14) (.k (.int .u64 16)), none⟩,
    ⟨some 16, .bin .or (.t 9) (.t 15), none⟩,
    ⟨some 17, .mv (.t 0), none⟩,
    ⟨some 18, .mv (.t 1), none⟩,
    ⟨some 19, .bin .add (.t 18) (.k (.int .i64 2)), none⟩,
    ⟨some 20, .idx (.t 17) (.t 19), none⟩,
    ⟨some 21, .i2i .i64 (.t 20), none⟩,
    ⟨some 22, .bin .shl (.t 21) (.k (.int .u64 8)), none⟩,
    ⟨some 23, .bin .or (.t 16) (.t 22), none⟩,
    ⟨some 24, .mv (.t 0), none⟩,
    ⟨some 25, .mv (.t 1), none⟩,
    ⟨some 26, .bin .add (.t 25) (.k (.int .i64 3)), none⟩,
    ⟨some 27, .idx (.t 24) (.t 26), none⟩,
    ⟨some 28, .i2i .i64 (.t 27), none⟩,
    ⟨some 29, .bin .or (.t 23) (.t 28), none⟩,
    ⟨some 4, .mv (.t 29), none⟩] [[], [], [0, 1], [0, 1, 2], [0, 1, 2, 3], [], [], [6], [5, 6, 7], [5, 6, 7, 8], [5, 6, 7, 8, 9], [0, 1, 2, 3, 4, 5, 6, 7, 8, 9, 10], [], [], [13], [12, 13, 14], [12, 13, 14, 15], [12, 13, 14, 15, 16], [0, 1, 2, 3, 4, 5, 6, 7, 8, 9, 10, 11, 12, 13, 14, 15, 16, 17], [], [], [20], [19, 20, 21], [19, 20, 21, 22], [0, 1, 2, 3, 4, 5, 6, 7, 8, 9, 10, 11, 12, 13, 14, 15, 16, 17, 18, 19, 20, 21, 22, 23], [0, 1, 2, 3, 4, 5, 6, 7, 8, 9, 10, 11, 12, 13, 14, 15, 16, 17, 18, 19, 20, 21, 22, 23, 24]] [4] [])
  (.ret))
def impl_fourAt.m : Fn := { np := 2, body := impl_fourAt.b, res := [.tmp 4] }
def impl_fourAt.k (M : Nat → Option Body) : Prop := M 236 = some (.code impl_fourAt.m)
def impl_Unsealed.b : C := .seq (.reg [⟨some 2, .mv (.k (.str ⟨#[]⟩)), none⟩,
    ⟨some 3, .mv (.k (.bool false)), none⟩] [0] [])
  (.seq (.reg [⟨some 5, .mv (.t 0), none⟩,
    ⟨some 6, .slen (.t 5), none⟩,
    ⟨some 7, .bin .sub (.t 6) (.k (.int .i64 4)), none⟩,
    ⟨some 4, .mv (.t 7), none⟩] [0, 4] [])
  (.seq (.seq (.reg [⟨some 8, .mv (.t 4), none⟩,
    ⟨some 9, .call 101 [.t 8, .k (.int .i64 0), .k (.int .i64 20000)] [] [], none⟩,
    ⟨some 10, .not (.t 9), none⟩,
    ⟨some 11, .mv (.t 10), none⟩,
    ⟨some 12, .mv (.t 0), some (11, false)⟩,
    ⟨some 13, .mv (.t 4), some (11, false)⟩,
    ⟨some 14, .sstr (.t 12) none (some (.t 13)), some (11, false)⟩,
    ⟨some 15, .call 203 [.t 14] [] [], some (11, false)⟩,
    ⟨some 16, .i2i .i64 (.t 15), some (11, false)⟩,
    ⟨some 17, .mv (.t 0), some (11, false)⟩,
    ⟨some 18, .mv (.t 4), some (11, false)⟩,
    ⟨some 19, .call 236 [.t 17, .t 18] [] [], some (11, false)⟩,
    ⟨some 20, .bin .neq (.t 16) (.t 19), some (11, false)⟩,
    ⟨some 21, .pick (.t 11) (.k (.bool true)) (.t 20), none⟩] [0, 4, 21] [])
  (.cond (.t 21) (.seq (.reg [⟨some 2, .mv (.k (.str ⟨#[]⟩)), none⟩,
    ⟨some 3, .mv (.k (.bool false)), none⟩] [2, 3] [])
  (.ret)) (.skip)))
  (.seq (.reg [⟨some 22, .mv (.t 0), none⟩,
    ⟨some 23, .mv (.t 4), none⟩,
    ⟨some 24, .sstr (.t 22) none (some (.t 23)), none⟩,
    ⟨some 2, .mv (.t 24), none⟩,
    ⟨some 3, .mv (.k (.bool true)), none⟩] [2, 3] [])
  (.ret))))
def impl_Unsealed.m : Fn := { np := 1, body := impl_Unsealed.b, res := [.tmp 2, .tmp 3] }
def impl_Unsealed.k (M : Nat → Option Body) : Prop := M 168 = some (.code impl_Unsealed.m) ∧ impl_within.k M ∧ impl_SumOf.k M ∧ impl_fourAt.k M
end Mx

/-
  Sums over bytes, four bytes of a number; what Sealed answers.
-/
namespace Mx
open Go
variable {M : Nat → Option Body}
abbrev U32 (n : Int) : T := .int .u32 n

/-- one bit more -/
def half (x : Int) : Int := if x % 2 = 1 then xorI .u32 (x / 2) 3558460437 else x / 2
def halfN : Nat → Int → Int
  | 0, x => x
  | n + 1, x => halfN n (half x)
def sumByte (x : Int) (b : UInt8) : Int := halfN 8 (xorI .u32 x b.toNat)
def sumMore (x : Int) (l : List UInt8) : Int := l.foldl sumByte x
def sumOf (l : List UInt8) : Int := sumMore 4294967295 l
def in32 (x : Int) : Prop := 0 ≤ x ∧ x < 4294967296
theorem xor_in (x y : Int) : in32 (xorI .u32 x y) := by
  unfold xorI in32; rw [wrap_u32]; omega
theorem half_in {x : Int} (h : in32 x) : in32 (half x) := by
  unfold half; split
  · exact xor_in _ _
  · unfold in32 at *; omega
theorem halfN_in : ∀ (n : Nat) {x : Int}, in32 x → in32 (halfN n x)
  | 0, _, h => h
  | n + 1, _, h => halfN_in n (half_in h)
theorem sumMore_in : ∀ (l : List UInt8) {x : Int}, in32 x → in32 (sumMore x l)
  | [], _, h => h
  | b :: l, x, h => by
    show in32 (sumMore (sumByte x b) l)
    exact sumMore_in l (halfN_in 8 (xor_in _ _))
theorem sumOf_in (l : List UInt8) : in32 (sumOf l) := sumMore_in l ⟨by decide, by decide⟩

/-! ## the inner loops -/
def spH (l : List UInt8) (j : Nat) (s : Nat × Int) (x : Nat) : St := { t := [(0, .c (U32 s.2)), (1, .c (S l)), (5, .c (I j)), (6, .c (I s.1))], o := [], n := x }
theorem tmod2 {x : Int} (h : 0 ≤ x) : x.tmod 2 = x % 2 := Int.tmod_eq_emod_of_nonneg h
theorem tdiv2 {x : Int} (h : 0 ≤ x) : x.tdiv 2 = x / 2 := Int.tdiv_eq_ediv_of_nonneg h
theorem spec_SumMore.inner (cf : CallF) (k : Nat) (l : List UInt8) (j : Nat) (x0 : Int) (h0 : in32 x0) : ∀ m, 8 < m → ∃ g : Nat → Nat, ∀ x, loopN (exC cf k spec_SumMore.l1) m (spH l j (0, x0) x) =
    some (.exit 2, { t := [(0, .c (U32 (halfN 8 x0))), (1, .c (S l)), (5, .c (I j)), (6, .c (I 8)), (21, .c (.bool false))], o := [], n := g x }) := by
  intro m hm
  exact loop_all (f := exC cf k spec_SumMore.l1) (spH l j) (fun s => s.1 ≤ 8 ∧ in32 s.2) (fun s => 8 - s.1) (fun s => halfN (8 - s.1) s.2)
    (fun q m => (.exit 2, { t := [(0, .c (U32 q)), (1, .c (S l)), (5, .c (I j)), (6, .c (I 8)), (21, .c (.bool false))], o := [], n := m }))
    (by
      rintro ⟨i, y⟩ x ⟨h1, h2⟩
      simp only at h1 h2
      by_cases hlt : i < 8
      · have e5 : IntKind.i64.wrap ((i : Int) + 1) = (i : Int) + 1 := wrap_i64 (by omega) (by omega)
        have e0 : (i : Int) < 8 := by omega
        have e1 := tmod2 h2.1
        have e2 := tdiv2 h2.1
        have e3 : IntKind.u32.wrap (y / 2) = y / 2 := by rw [wrap_u32]; have := h2.2; have := h2.1; omega
        have hd : 8 - i = (8 - (i + 1)) + 1 := by omega
        left
        obtain ⟨z, hz⟩ : ∃ z, exC cf k spec_SumMore.l1 (spH l j (i, y) x) = some (.normal, spH l j (i + 1, half y) z) := by
          by_cases c : y % 2 = 1
          · simp [spH, spec_SumMore.l1, e0, e5, e1, e2, e3, c, half]
          · simp [spH, spec_SumMore.l1, e0, e5, e1, e2, e3, c, half]
        exact ⟨(i + 1, half y), z, hz, ⟨hlt, half_in h2⟩, by simp only; omega, by simp only [hd]; rfl⟩
      · have : i = 8 := by omega
        subst this
        exact .inr ⟨x + 32, by simp [spH, spec_SumMore.l1, halfN], by simp⟩)
    m (0, x0) ⟨by simp, h0⟩ (by simp; omega)

theorem and1 {x : Int} (h : in32 x) : andI .u32 x 1 = x % 2 := by
  obtain ⟨n, rfl⟩ := Int.eq_ofNat_of_zero_le h.1
  have h2 : n < 4294967296 := by have := h.2; omega
  rw [andI_eq, wrap_u32]
  have e1 : ((n : Int) % ((2 ^ IntKind.u32.bits : Nat) : Int)).toNat = n := by
    show ((n : Int) % 4294967296).toNat = n
    omega
  have e2 : ((1 : Int) % ((2 ^ IntKind.u32.bits : Nat) : Int)).toNat = 1 := by decide
  rw [e1, e2, Nat.and_one_is_mod]; omega
def imH (l : List UInt8) (j : Nat) (s : Nat × Int) (x : Nat) : St := { t := [(0, .c (U32 s.2)), (1, .c (S l)), (5, .c (I j)), (19, .c (I s.1))], o := [], n := x }
theorem impl_SumMore.inner (cf : CallF) (k : Nat) (l : List UInt8) (j : Nat) (x0 : Int) (h0 : in32 x0) : ∀ m, 8 < m → ∃ g : Nat → Nat, ∀ x, loopN (exC cf k impl_SumMore.l1) m (imH l j (0, x0) x) =
    some (.exit 2, { t := [(0, .c (U32 (halfN 8 x0))), (1, .c (S l)), (5, .c (I j)), (19, .c (I 8)), (20, .c (.bool false))], o := [], n := g x }) := by
  intro m hm
  exact loop_all (f := exC cf k impl_SumMore.l1) (imH l j) (fun s => s.1 ≤ 8 ∧ in32 s.2) (fun s => 8 - s.1) (fun s => halfN (8 - s.1) s.2)
    (fun q m => (.exit 2, { t := [(0, .c (U32 q)), (1, .c (S l)), (5, .c (I j)), (19, .c (I 8)), (20, .c (.bool false))], o := [], n := m }))
    (by
      rintro ⟨i, y⟩ x ⟨h1, h2⟩
      simp only at h1 h2
      by_cases hlt : i < 8
      · have e5 : IntKind.i64.wrap ((i : Int) + 1) = (i : Int) + 1 := wrap_i64 (by omega) (by omega)
        have e0 : (i : Int) < 8 := by omega
        have e1 := and1 h2
        have e2 : y.fdiv 2 = y / 2 := Int.fdiv_eq_ediv_of_nonneg _ (by omega)
        have hd : 8 - i = (8 - (i + 1)) + 1 := by omega
        left
        obtain ⟨z, hz⟩ : ∃ z, exC cf k impl_SumMore.l1 (imH l j (i, y) x) = some (.normal, imH l j (i + 1, half y) z) := by
          by_cases c : y % 2 = 1
          · simp [imH, impl_SumMore.l1, e0, e5, e1, e2, c, half, IntKind.bits]
          · simp [imH, impl_SumMore.l1, e0, e5, e1, e2, c, half, IntKind.bits]
        exact ⟨(i + 1, half y), z, hz, ⟨hlt, half_in h2⟩, by simp only; omega, by simp only [hd]; rfl⟩
      · have : i = 8 := by omega
        subst this
        exact .inr ⟨x + 16, by simp [imH, impl_SumMore.l1, halfN], by simp⟩)
    m (0, x0) ⟨by simp, h0⟩ (by simp; omega)

/-! ## the sums -/
theorem u8_u32 (b : UInt8) : IntKind.u32.wrap (b.toNat : Int) = b.toNat := by
  rw [wrap_u32]; have := b.toNat_lt; omega
def spSum (l : List UInt8) (s : Nat × Int) (x : Nat) : St := { t := [(0, .c (U32 s.2)), (1, .c (S l)), (5, .c (I s.1))], o := [], n := x }
theorem spec_SumMore.says (h : spec_SumMore.k M) (l : List UInt8) (hl : l.length ≤ 4611686018427387904) (x0 : Int) (h0 : in32 x0) : run M 248 [.c (U32 x0), .c (S l)] [] = some (.c (U32 (sumMore x0 l)), []) := by
  refine run_code (b := spec_SumMore.m) h ⟨l.length + 9, ?_⟩
  obtain ⟨g, hr⟩ := loop_all (f := exC (run M) (l.length + 9) spec_SumMore.l0) (spSum l) (fun s => s.1 ≤ l.length ∧ in32 s.2) (fun s => l.length - s.1) (fun s => sumMore s.2 (l.drop s.1))
    (fun q m => (.exit 0, { t := [(0, .c (U32 q)), (1, .c (S l)), (5, .c (I l.length)), (11, .c (.bool false))], o := [], n := m }))
    (by
      rintro ⟨i, y⟩ x ⟨h1, h2⟩
      simp only at h1 h2
      by_cases hlt : i < l.length
      · have e5 : IntKind.i64.wrap ((i : Int) + 1) = (i : Int) + 1 := wrap_i64 (by omega) (by omega)
        have e6 := u8_u32 l[i]
        obtain ⟨g1, hg⟩ := spec_SumMore.inner (run M) (l.length + 9) l i (xorI .u32 y l[i].toNat) (xor_in _ _) (l.length + 9) (by omega)
        simp [spH] at hg
        left
        obtain ⟨z, hz⟩ : ∃ z, exC (run M) (l.length + 9) spec_SumMore.l0 (spSum l (i, y) x) = some (.normal, spSum l (i + 1, sumByte y l[i]) z) := by
          simp [spSum, spec_SumMore.l0, hlt, bs_get, e5, e6, hg, sumByte]
        refine ⟨(i + 1, sumByte y l[i]), z, hz, ⟨hlt, halfN_in 8 (xor_in _ _)⟩, by simp only; omega, ?_⟩
        simp only [List.drop_eq_getElem_cons hlt]; rfl
      · have : i = l.length := by omega
        subst this
        exact .inr ⟨x + 64, by simp [spSum, spec_SumMore.l0, sumMore], by simp⟩)
    (l.length + 9) (0, x0) ⟨Nat.zero_le _, h0⟩ (by simp)
  simp [spSum] at hr
  simp [exB, spec_SumMore.m, spec_SumMore.b, List.range_succ, hr]
theorem impl_SumMore.says (h : impl_SumMore.k M) (l : List UInt8) (hl : l.length ≤ 4611686018427387904) (x0 : Int) (h0 : in32 x0) : run M 249 [.c (U32 x0), .c (S l)] [] = some (.c (U32 (sumMore x0 l)), []) := by
  refine run_code (b := impl_SumMore.m) h ⟨l.length + 9, ?_⟩
  obtain ⟨g, hr⟩ := loop_all (f := exC (run M) (l.length + 9) impl_SumMore.l0) (spSum l) (fun s => s.1 ≤ l.length ∧ in32 s.2) (fun s => l.length - s.1) (fun s => sumMore s.2 (l.drop s.1))
    (fun q m => (.exit 0, { t := [(0, .c (U32 q)), (1, .c (S l)), (5, .c (I l.length)), (10, .c (.bool false))], o := [], n := m }))
    (by
      rintro ⟨i, y⟩ x ⟨h1, h2⟩
      simp only at h1 h2
      by_cases hlt : i < l.length
      · have e5 : IntKind.i64.wrap ((i : Int) + 1) = (i : Int) + 1 := wrap_i64 (by omega) (by omega)
        have e6 := u8_u32 l[i]
        obtain ⟨g1, hg⟩ := impl_SumMore.inner (run M) (l.length + 9) l i (xorI .u32 y l[i].toNat) (xor_in _ _) (l.length + 9) (by omega)
        simp [imH] at hg
        left
        obtain ⟨z, hz⟩ : ∃ z, exC (run M) (l.length + 9) impl_SumMore.l0 (spSum l (i, y) x) = some (.normal, spSum l (i + 1, sumByte y l[i]) z) := by
          simp [spSum, impl_SumMore.l0, hlt, bs_get, e5, e6, hg, sumByte]
        refine ⟨(i + 1, sumByte y l[i]), z, hz, ⟨hlt, halfN_in 8 (xor_in _ _)⟩, by simp only; omega, ?_⟩
        simp only [List.drop_eq_getElem_cons hlt]; rfl
      · have : i = l.length := by omega
        subst this
        exact .inr ⟨x + 64, by simp [spSum, impl_SumMore.l0, sumMore], by simp⟩)
    (l.length + 9) (0, x0) ⟨Nat.zero_le _, h0⟩ (by simp)
  simp [spSum] at hr
  simp [exB, impl_SumMore.m, impl_SumMore.b, List.range_succ, hr]
theorem spec_SumOf.says (h : spec_SumOf.k M) (l : List UInt8) (hl : l.length ≤ 4611686018427387904) : run M 201 [.c (S l)] [] = some (.c (U32 (sumOf l)), []) := by
  have h1 := spec_SumMore.says h.2 l hl 4294967295 ⟨by decide, by decide⟩
  refine run_code (b := spec_SumOf.m) h.1 ⟨0, ?_⟩
  simp [exB, spec_SumOf.m, spec_SumOf.b, List.range_succ, h1, sumOf]
theorem impl_SumOf.says (h : impl_SumOf.k M) (l : List UInt8) (hl : l.length ≤ 4611686018427387904) : run M 203 [.c (S l)] [] = some (.c (U32 (sumOf l)), []) := by
  have h1 := impl_SumMore.says h.2 l hl 4294967295 ⟨by decide, by decide⟩
  refine run_code (b := impl_SumOf.m) h.1 ⟨0, ?_⟩
  simp [exB, impl_SumOf.m, impl_SumOf.b, List.range_succ, h1, sumOf]

/-! ## four bytes -/
def byteOf (x : Int) : UInt8 := UInt8.ofNat (x % 256).toNat
def four (x : Int) : List UInt8 := [byteOf (x / 16777216), byteOf (x / 65536), byteOf (x / 256), byteOf x]
theorem four_len (x : Int) : (four x).length = 4 := rfl
theorem spec_l02Four.says (h : spec_l02Four.k M) (x : Int) : run M 202 [.c (U32 x)] [] = some (.c (S (four x)), []) := by
  refine run_code (b := spec_l02Four.m) h ⟨0, ?_⟩
  have e1 : x.fdiv 16777216 = x / 16777216 := Int.fdiv_eq_ediv_of_nonneg _ (by omega)
  have e2 : x.fdiv 65536 = x / 65536 := Int.fdiv_eq_ediv_of_nonneg _ (by omega)
  have e3 : x.fdiv 256 = x / 256 := Int.fdiv_eq_ediv_of_nonneg _ (by omega)
  simp [exB, spec_l02Four.m, spec_l02Four.b, List.range_succ, IntKind.bits, e1, e2, e3, rowsBytes, four, byteOf, wrap_u8]
theorem impl_four.says (h : impl_four.k M) (x : Int) : run M 204 [.c (I x)] [] = some (.c (S (four x)), []) := by
  refine run_code (b := impl_four.m) h ⟨0, ?_⟩
  have e1 : x.fdiv 16777216 = x / 16777216 := Int.fdiv_eq_ediv_of_nonneg _ (by omega)
  have e2 : x.fdiv 65536 = x / 65536 := Int.fdiv_eq_ediv_of_nonneg _ (by omega)
  have e3 : x.fdiv 256 = x / 256 := Int.fdiv_eq_ediv_of_nonneg _ (by omega)
  simp [exB, impl_four.m, impl_four.b, List.range_succ, IntKind.bits, e1, e2, e3, rowsBytes, four, byteOf, wrap_u8]

def sealed (l : List UInt8) : List UInt8 × Bool := if 20000 < l.length then ([], false) else (l ++ four (sumOf l), true)
theorem spec_Sealed.says (h : spec_Sealed.k M) (l : List UInt8) (hl : l.length ≤ 4611686018427387904) : run M 100 [.c (S l)] [] = some (.tup [.c (S (sealed l).1), .c (.bool (sealed l).2)], []) := by
  have h1 := spec_SumOf.says h.2.1 l hl
  have h2 := spec_l02Four.says h.2.2 (sumOf l)
  refine run_code (b := spec_Sealed.m) h.1 ⟨0, ?_⟩
  by_cases c : 20000 < l.length
  · have c' : 20000 < (l.length : Int) := by omega
    simp [exB, spec_Sealed.m, spec_Sealed.b, List.range_succ, sealed, c, c']
  · have c' : ¬ 20000 < (l.length : Int) := by omega
    have e := four_len (sumOf l)
    simp (disch := (first | omega | (simp; done) | (simp; omega))) [exB, spec_Sealed.m, spec_Sealed.b, List.range_succ, sealed, c, c', h1, h2, str_add, e]
theorem impl_Sealed.says (h : impl_Sealed.k M) (l : List UInt8) (hl : l.length ≤ 4611686018427387904) : run M 103 [.c (S l)] [] = some (.tup [.c (S (sealed l).1), .c (.bool (sealed l).2)], []) := by
  have h1 := impl_SumOf.says h.2.1 l hl
  have h2 := impl_four.says h.2.2 (sumOf l)
  refine run_code (b := impl_Sealed.m) h.1 ⟨0, ?_⟩
  by_cases c : 20000 < l.length
  · have c' : 20000 < (l.length : Int) := by omega
    simp [exB, impl_Sealed.m, impl_Sealed.b, List.range_succ, sealed, c, c']
  · have c' : ¬ 20000 < (l.length : Int) := by omega
    have e := four_len (sumOf l)
    have hin := sumOf_in l
    have e2 : IntKind.i64.wrap (sumOf l) = sumOf l := wrap_i64 (by have := hin.1; omega) (by have := hin.2; omega)
    simp (disch := (first | omega | (simp; done) | (simp; omega))) [exB, impl_Sealed.m, impl_Sealed.b, List.range_succ, sealed, c, c', h1, h2, str_add, e, e2]
end Mx

/-
  Small codes: spec.RecordText, impl.RecordText, laws.FnExactRecordText.
-/
namespace Mx
open Go
def spec_RecordText.b : C := .seq (.reg [⟨some 2, .mv (.k (.str ⟨#[]⟩)), none⟩,
    ⟨some 3, .mv (.k (.bool false)), none⟩] [0] [])
  (.seq (.seq (.reg [⟨some 4, .mv (.t 0), none⟩,
    ⟨some 5, .slen (.t 4), none⟩,
    ⟨some 6, .call 98 [.t 5, .k (.int .i64 1), .k (.int .i64 6000)] [] [], none⟩,
    ⟨some 7, .not (.t 6), none⟩] [0, 7] [])
  (.cond (.t 7) (.seq (.reg [⟨some 2, .mv (.k (.str ⟨#[]⟩)), none⟩,
    ⟨some 3, .mv (.k (.bool false)), none⟩] [2, 3] [])
  (.ret)) (.skip)))
  (.seq (.reg [⟨some 8, .mv (.t 0), none⟩,
    ⟨some 9, .slen (.t 8), none⟩,
    ⟨some 10, .call 99 [.t 9] [] [], none⟩,
    ⟨some 11, .mv (.t 0), none⟩,
    ⟨some 12, .bin .add (.t 10) (.t 11), none⟩,
    ⟨some 13, .call 100 [.t 12] [] [], none⟩,
    ⟨some 14, .ext 0 (.t 13), none⟩,
    ⟨some 15, .ext 1 (.t 13), none⟩,
    ⟨some 2, .mv (.t 14), none⟩,
    ⟨some 3, .mv (.t 15), none⟩] [2, 3] [])
  (.ret)))
def spec_RecordText.m : Fn := { np := 1, body := spec_RecordText.b, res := [.tmp 2, .tmp 3] }
def spec_RecordText.k (M : Nat → Option Body) : Prop := M 10 = some (.code spec_RecordText.m) ∧ spec_l01In.k M ∧ spec_l01Var.k M ∧ spec_Sealed.k M
def impl_RecordText.b : C := .seq (.reg [⟨some 2, .mv (.k (.str ⟨#[]⟩)), none⟩,
    ⟨some 3, .mv (.k (.bool false)), none⟩] [0] [])
  (.seq (.seq (.reg [⟨some 4, .mv (.t 0), none⟩,
    ⟨some 5, .slen (.t 4), none⟩,
    ⟨some 6, .call 101 [.t 5, .k (.int .i64 1), .k (.int .i64 6000)] [] [], none⟩,
    ⟨some 7, .not (.t 6), none⟩] [0, 7] [])
  (.cond (.t 7) (.seq (.reg [⟨some 2, .mv (.k (.str ⟨#[]⟩)), none⟩,
    ⟨some 3, .mv (.k (.bool false)), none⟩] [2, 3] [])
  (.ret)) (.skip)))
  (.seq (.reg [⟨some 8, .mv (.t 0), none⟩,
    ⟨some 9, .call 102 [.t 8] [] [], none⟩,
    ⟨some 10, .call 103 [.t 9] [] [], none⟩,
    ⟨some 11, .ext 0 (.t 10), none⟩,
    ⟨some 12, .ext 1 (.t 10), none⟩,
    ⟨some 2, .mv (.t 11), none⟩,
    ⟨some 3, .mv (.t 12), none⟩] [2, 3] [])
  (.ret)))
def impl_RecordText.m : Fn := { np := 1, body := impl_RecordText.b, res := [.tmp 2, .tmp 3] }
def impl_RecordText.k (M : Nat → Option Body) : Prop := M 11 = some (.code impl_RecordText.m) ∧ impl_within.k M ∧ impl_short.k M ∧ impl_Sealed.k M
def laws_FnExactRecordText.b : C := .seq (.reg [⟨some 2, .mv (.k (.bool false)), none⟩] [0] [])
  (.seq (.seq (.reg [⟨some 7, .mv (.t 0), none⟩,
    ⟨some 8, .slen (.t 7), none⟩,
    ⟨some 9, .bin .gtr (.t 8) (.k (.int .i64 1048576)), none⟩] [0, 9] [])
  (.cond (.t 9) (.seq (.reg [⟨some 2, .mv (.k (.bool true)), none⟩] [2] [])
  (.ret)) (.skip)))
  (.seq (.reg [⟨some 11, .mv (.t 0), none⟩,
    ⟨some 12, .call 10 [.t 11] [] [], none⟩,
    ⟨some 10, .mv (.t 12), none⟩,
    ⟨some 13, .ext 0 (.t 10), none⟩,
    ⟨some 14, .ext 1 (.t 10), none⟩,
    ⟨some 3, .mv (.t 13), none⟩,
    ⟨some 4, .mv (.t 14), none⟩] [0, 3, 4] [])
  (.seq (.reg [⟨some 16, .mv (.t 0), none⟩,
    ⟨some 17, .call 11 [.t 16] [] [], none⟩,
    ⟨some 15, .mv (.t 17), none⟩,
    ⟨some 18, .ext 0 (.t 15), none⟩,
    ⟨some 19, .ext 1 (.t 15), none⟩,
    ⟨some 5, .mv (.t 18), none⟩,
    ⟨some 6, .mv (.t 19), none⟩] [3, 4, 5, 6] [])
  (.seq (.seq (.reg [⟨some 20, .mv (.t 5), none⟩,
    ⟨some 21, .mv (.t 3), none⟩,
    ⟨some 22, .bin .neq (.t 20) (.t 21), none⟩,
    ⟨some 23, .mv (.t 22), none⟩,
    ⟨some 24, .mv (.t 6), some (23, false)⟩,
    ⟨some 25, .mv (.t 4), some (23, false)⟩,
    ⟨some 26, .beq true (.t 24) (.t 25), some (23, false)⟩,
    ⟨some 27, .pick (.t 23) (.k (.bool true)) (.t 26), none⟩] [27] [])
  (.cond (.t 27) (.seq (.reg [⟨some 2, .mv (.k (.bool false)), none⟩] [2] [])
  (.ret)) (.skip)))
  (.seq (.reg [⟨some 2, .mv (.k (.bool true)), none⟩] [2] [])
  (.ret))))))
def laws_FnExactRecordText.m : Fn := { np := 1, body := laws_FnExactRecordText.b, res := [.tmp 2] }
def laws_FnExactRecordText.k (M : Nat → Option Body) : Prop := M 363 = some (.code laws_FnExactRecordText.m) ∧ spec_RecordText.k M ∧ impl_RecordText.k M
end Mx

/-
  What the two RecordText answer, and their law.
-/
namespace Mx
open Go
variable {M : Nat → Option Body}
def recordText (l : List UInt8) : List UInt8 × Bool := if 1 ≤ l.length ∧ l.length ≤ 6000 then sealed (shortT l) else ([], false)
theorem spec_RecordText.says (h : spec_RecordText.k M) (l : List UInt8) (hl : l.length ≤ 4611686018427387904) : run M 10 [.c (S l)] [] = some (.tup [.c (S (recordText l).1), .c (.bool (recordText l).2)], []) := by
  obtain ⟨h0, k1, k2, k3⟩ := h
  have hw := spec_l01In.says k1 l.length 1 6000
  refine run_code (b := spec_RecordText.m) h0 ⟨0, ?_⟩
  by_cases c : 1 ≤ l.length ∧ l.length ≤ 6000
  · have c1 : (1 : Int) ≤ l.length := by omega
    have c2 : (l.length : Int) ≤ 6000 := by omega
    have h1 := spec_l01Var.says k2 l.length (by omega)
    have hv := varT_len (n := l.length) (by omega)
    have h2 := spec_Sealed.says k3 (varT l.length ++ l) (by simp; omega)
    simp [c1, c2] at hw
    simp (disch := (first | omega | (simp; done) | (simp; omega))) [exB, spec_RecordText.m, spec_RecordText.b, List.range_succ, hw, h1, h2, recordText, c, shortT, str_add]
  · have hb : (decide ((1 : Int) ≤ l.length) && decide ((l.length : Int) ≤ 6000)) = false := by
      rw [Bool.eq_false_iff]; intro hh; simp only [Bool.and_eq_true, decide_eq_true_eq] at hh; omega
    rw [hb] at hw
    simp [exB, spec_RecordText.m, spec_RecordText.b, List.range_succ, hw, recordText, c]
theorem impl_RecordText.says (h : impl_RecordText.k M) (l : List UInt8) (hl : l.length ≤ 4611686018427387904) : run M 11 [.c (S l)] [] = some (.tup [.c (S (recordText l).1), .c (.bool (recordText l).2)], []) := by
  obtain ⟨h0, k1, k2, k3⟩ := h
  have hw := impl_within.says k1 l.length 1 6000
  refine run_code (b := impl_RecordText.m) h0 ⟨0, ?_⟩
  by_cases c : 1 ≤ l.length ∧ l.length ≤ 6000
  · have c1 : (1 : Int) ≤ l.length := by omega
    have c2 : (l.length : Int) ≤ 6000 := by omega
    have h1 := impl_short.says k2 l (by omega)
    have hv := varT_len (n := l.length) (by omega)
    have h2 := impl_Sealed.says k3 (shortT l) (by simp [shortT]; omega)
    simp [c1, c2] at hw
    simp [exB, impl_RecordText.m, impl_RecordText.b, List.range_succ, hw, h1, h2, recordText, c]
  · have hb : (decide ((1 : Int) ≤ l.length) && decide ((l.length : Int) ≤ 6000)) = false := by
      rw [Bool.eq_false_iff]; intro hh; simp only [Bool.and_eq_true, decide_eq_true_eq] at hh; omega
    rw [hb] at hw
    simp [exB, impl_RecordText.m, impl_RecordText.b, List.range_succ, hw, recordText, c]
theorem laws_FnExactRecordText.says (h : laws_FnExactRecordText.k M) (l : List UInt8) : run M 363 [.c (S l)] [] = some (.c (.bool true), []) := by
  refine run_code (b := laws_FnExactRecordText.m) h.1 ⟨0, ?_⟩
  by_cases hc : (1048576 : Int) < l.length
  · simp [exB, laws_FnExactRecordText.m, laws_FnExactRecordText.b, List.range_succ, hc]
  · have h1 := spec_RecordText.says h.2.1 l (by omega)
    have h2 := impl_RecordText.says h.2.2 l (by omega)
    simp [exB, laws_FnExactRecordText.m, laws_FnExactRecordText.b, List.range_succ, hc, h1, h2]
theorem laws_FnExactRecordText.row (h : laws_FnExactRecordText.k M) {as : List V} (ha : HasVs [.cell .str] as) : run M 363 as [] = some (.c (.bool true), []) := by
  cases ha with | cons h0 ha =>
  cases ha
  cases h0 with | cell h0 =>
  cases h0 with | str s hs =>
  obtain ⟨l, rfl⟩ := of_bytes s
  exact laws_FnExactRecordText.says h l
end Mx

/-
  Small codes: spec.l12Read, spec.ReadRecords, impl.recordAt, impl.ReadRecords, laws.eqStringS, laws.markText, laws.markStringS, laws.heldStringS, laws.FnExactReadRecords.
-/
namespace Mx
open Go
def spec_l12Read.b : C := .seq (.reg [⟨some 4, .mv (.k (.str ⟨#[]⟩)), none⟩,
    ⟨some 5, .mv (.k (.int .i64 0)), none⟩,
    ⟨some 6, .mv (.k (.bool false)), none⟩] [0, 1] [])
  (.seq (.reg [⟨some 13, .mv (.t 0), none⟩,
    ⟨some 14, .mv (.t 1), none⟩,
    ⟨some 15, .call 206 [.t 13, .t 14] [] [], none⟩,
    ⟨some 12, .mv (.t 15), none⟩,
    ⟨some 16, .ext 0 (.t 12), none⟩,
    ⟨some 17, .ext 1 (.t 12), none⟩,
    ⟨some 18, .ext 2 (.t 12), none⟩,
    ⟨some 7, .mv (.t 16), none⟩,
    ⟨some 8, .mv (.t 17), none⟩,
    ⟨some 9, .mv (.t 18), none⟩] [0, 1, 7, 8, 9] [])
  (.seq (.seq (.reg [⟨some 19, .mv (.t 9), none⟩,
    ⟨some 20, .not (.t 19), none⟩,
    ⟨some 21, .mv (.t 20), none⟩,
    ⟨some 22, .mv (.t 8), some (21, false)⟩,
    ⟨some 23, .mv (.t 0), some (21, false)⟩,
    ⟨some 24, .slen (.t 23), some (21, false)⟩,
    ⟨some 25, .bin .sub (.t 24) (.k (.int .i64 4)), some (21, false)⟩,
    ⟨some 26, .bin .gtr (.t 22) (.t 25), some (21, false)⟩,
    ⟨some 27, .pick (.t 21) (.k (.bool true)) (.t 26), none⟩] [0, 1, 7, 8, 27] [])
  (.cond (.t 27) (.seq (.reg [⟨some 4, .mv (.k (.str ⟨#[]⟩)), none⟩,
    ⟨some 5, .mv (.k (.int .i64 0)), none⟩,
    ⟨some 6, .mv (.k (.bool false)), none⟩] [4, 5, 6] [])
  (.ret)) (.skip)))
  (.seq (.reg [⟨some 29, .mv (.t 7), none⟩,
    ⟨some 30, .call 10 [.t 29] [] [], none⟩,
    ⟨some 28, .mv (.t 30), none⟩,
    ⟨some 31, .ext 0 (.t 28), none⟩,
    ⟨some 32, .ext 1 (.t 28), none⟩,
    ⟨some 10, .mv (.t 31), none⟩,
    ⟨some 11, .mv (.t 32), none⟩] [0, 1, 7, 8, 10, 11] [])
  (.seq (.seq (.reg [⟨some 33, .mv (.t 11), none⟩,
    ⟨some 34, .not (.t 33), none⟩,
    ⟨some 35, .mv (.t 34), none⟩,
    ⟨some 36, .mv (.t 10), some (35, false)⟩,
    ⟨some 37, .mv (.t 0), some (35, false)⟩,
    ⟨some 38, .mv (.t 1), some (35, false)⟩,
    ⟨some 39, .mv (.t 8), some (35, false)⟩,
    ⟨some 40, .bin .add (.t 39) (.k (.int .i64 4)), some (35, false)⟩,
    ⟨some 41, .sstr (.t 37) (some (.t 38)) (some (.t 40)), some (35, false)⟩,
    ⟨some 42, .bin .neq (.t 36) (.t 41), some (35, false)⟩,
    ⟨some 43, .pick (.t 35) (.k (.bool true)) (.t 42), none⟩] [7, 8, 43] [])
  (.cond (.t 43) (.seq (.reg [⟨some 4, .mv (.k (.str ⟨#[]⟩)), none⟩,
    ⟨some 5, .mv (.k (.int .i64 0)), none⟩,
    ⟨some 6, .mv (.k (.bool false)), none⟩] [4, 5, 6] [])
  (.ret)) (.skip)))
  (.seq (.reg [⟨some 44, .mv (.t 7), none⟩,
    ⟨some 45, .mv (.t 8), none⟩,
    ⟨some 46, .bin .add (.t 45) (.k (.int .i64 4)), none⟩,
    ⟨some 4, .mv (.t 44), none⟩,
    ⟨some 5, .mv (.t 46), none⟩,
    ⟨some 6, .mv (.k (.bool true)), none⟩] [4, 5, 6] [])
  (.ret))))))
def spec_l12Read.m : Fn := { np := 2, body := spec_l12Read.b, res := [.tmp 4, .tmp 5, .tmp 6] }
def spec_l12Read.k (M : Nat → Option Body) : Prop := M 104 = some (.code spec_l12Read.m) ∧ spec_RecordText.k M ∧ spec_ReadShort.k M
def spec_ReadRecords.l0 : C := .block 1 (.seq (.reg [⟨some 11, .mv (.t 0), none⟩,
    ⟨some 12, .mv (.t 5), none⟩,
    ⟨some 13, .call 104 [.t 11, .t 12] [] [], none⟩,
    ⟨some 10, .mv (.t 13), none⟩,
    ⟨some 14, .ext 0 (.t 10), none⟩,
    ⟨some 15, .ext 1 (.t 10), none⟩,
    ⟨some 16, .ext 2 (.t 10), none⟩,
    ⟨some 6, .mv (.t 14), none⟩,
    ⟨some 7, .mv (.t 15), none⟩,
    ⟨some 8, .mv (.t 16), none⟩] [0, 4, 5, 6, 7, 8] [9, 24])
  (.seq (.seq (.reg [⟨some 17, .mv (.t 8), none⟩,
    ⟨some 18, .not (.t 17), none⟩] [0, 4, 5, 6, 7, 18] [9, 24])
  (.cond (.t 18) (.seq (.reg [⟨some 19, .mv (.t 4), none⟩,
    ⟨some 20, .mv (.t 5), none⟩,
    ⟨some 2, .mv (.t 19), none⟩,
    ⟨some 3, .mv (.t 20), none⟩] [2, 3] [2, 9, 24])
  (.ret)) (.skip)))
  (.seq (.reg [⟨some 21, .mv (.t 4), none⟩,
    ⟨some 22, .mv (.t 6), none⟩,
    ⟨some 23, .bslice 1 1 [.str ⟨#[]⟩] [(0, .t 22)], none⟩,
    ⟨some 24, .app 1 16 (.t 21) (.t 23), none⟩,
    ⟨some 4, .mv (.t 24), none⟩] [0, 4, 7] [9, 24])
  (.reg [⟨some 25, .mv (.t 7), none⟩,
    ⟨some 5, .mv (.t 25), none⟩] [0, 4, 5] [9, 24]))))
def spec_ReadRecords.b : C := .seq (.reg [⟨some 2, .nil 1, none⟩,
    ⟨some 3, .mv (.k (.int .i64 0)), none⟩] [0] [])
  (.seq (.reg [⟨some 9, .bslice 1 0 [.str ⟨#[]⟩] [], none⟩,
    ⟨some 4, .mv (.t 9), none⟩] [0, 4] [9, 24])
  (.seq (.reg [⟨some 5, .mv (.k (.int .i64 0)), none⟩] [0, 4, 5] [9, 24])
  (.block 0 (.loop spec_ReadRecords.l0))))
def spec_ReadRecords.m : Fn := { np := 1, body := spec_ReadRecords.b, res := [.tmp 2, .tmp 3] }
def spec_ReadRecords.k (M : Nat → Option Body) : Prop := M 12 = some (.code spec_ReadRecords.m) ∧ spec_l12Read.k M
def impl_recordAt.b : C := .seq (.reg [⟨some 4, .mv (.k (.str ⟨#[]⟩)), none⟩,
    ⟨some 5, .mv (.k (.int .i64 0)), none⟩,
    ⟨some 6, .mv (.k (.bool false)), none⟩] [0, 1] [])
  (.seq (.reg [⟨some 13, .mv (.t 0), none⟩,
    ⟨some 14, .mv (.t 1), none⟩,
    ⟨some 15, .call 207 [.t 13, .t 14] [] [], none⟩,
    ⟨some 12, .mv (.t 15), none⟩,
    ⟨some 16, .ext 0 (.t 12), none⟩,
    ⟨some 17, .ext 1 (.t 12), none⟩,
    ⟨some 18, .ext 2 (.t 12), none⟩,
    ⟨some 7, .mv (.t 16), none⟩,
    ⟨some 8, .mv (.t 17), none⟩,
    ⟨some 9, .mv (.t 18), none⟩] [0, 1, 7, 8, 9] [])
  (.seq (.seq (.reg [⟨some 19, .mv (.t 9), none⟩,
    ⟨some 20, .not (.t 19), none⟩,
    ⟨some 21, .mv (.t 20), none⟩,
    ⟨some 22, .mv (.t 7), some (21, false)⟩,
    ⟨some 23, .slen (.t 22), some (21, false)⟩,
    ⟨some 24, .call 101 [.t 23, .k (.int .i64 1), .k (.int .i64 6000)] [] [], some (21, false)⟩,
    ⟨some 25, .not (.t 24), some (21, false)⟩,
    ⟨some 26, .pick (.t 21) (.k (.bool true)) (.t 25), none⟩,
    ⟨some 27, .mv (.t 26), none⟩,
    ⟨some 28, .mv (.t 0), some (27, false)⟩,
    ⟨some 29, .slen (.t 28), some (27, false)⟩,
    ⟨some 30, .mv (.t 8), some (27, false)⟩,
    ⟨some 31, .bin .sub (.t 29) (.t 30), some (27, false)⟩,
    ⟨some 32, .bin .lss (.t 31) (.k (.int .i64 4)), some (27, false)⟩,
    ⟨some 33, .pick (.t 27) (.k (.bool true)) (.t 32), none⟩] [0, 1, 7, 8, 33] [])
  (.cond (.t 33) (.seq (.reg [⟨some 4, .mv (.k (.str ⟨#[]⟩)), none⟩,
    ⟨some 5, .mv (.k (.int .i64 0)), none⟩,
    ⟨some 6, .mv (.k (.bool false)), none⟩] [4, 5, 6] [])
  (.ret)) (.skip)))
  (.seq (.seq (.reg [⟨some 35, .mv (.t 0), none⟩,
    ⟨some 36, .mv (.t 1), none⟩,
    ⟨some 37, .mv (.t 8), none⟩,
    ⟨some 38, .bin .add (.t 37) (.k (.int .i64 4)), none⟩,
    ⟨some 39, .sstr (.t 35) (some (.t 36)) (some (.t 38)), none⟩,
    ⟨some 40, .call 168 [.t 39] [] [], none⟩,
    ⟨some 34, .mv (.t 40), none⟩,
    ⟨some 41, .ext 0 (.t 34), none⟩,
    ⟨some 42, .ext 1 (.t 34), none⟩,
    ⟨some 10, .mv (.t 41), none⟩,
    ⟨some 11, .mv (.t 42), none⟩] [7, 8, 11] [])
  (.seq (.reg [⟨some 43, .mv (.t 11), none⟩,
    ⟨some 44, .not (.t 43), none⟩] [7, 8, 44] [])
  (.cond (.t 44) (.seq (.reg [⟨some 4, .mv (.k (.str ⟨#[]⟩)), none⟩,
    ⟨some 5, .mv (.k (.int .i64 0)), none⟩,
    ⟨some 6, .mv (.k (.bool false)), none⟩] [4, 5, 6] [])
  (.ret)) (.skip))))
  (.seq (.reg [⟨some 45, .mv (.t 7), none⟩,
    ⟨some 46, .mv (.t 8), none⟩,
    ⟨some 47, .bin .add (.t 46) (.k (.int .i64 4)), none⟩,
    ⟨some 4, .mv (.t 45), none⟩,
    ⟨some 5, .mv (.t 47), none⟩,
    ⟨some 6, .mv (.k (.bool true)), none⟩] [4, 5, 6] [])
  (.ret)))))
def impl_recordAt.m : Fn := { np := 2, body := impl_recordAt.b, res := [.tmp 4, .tmp 5, .tmp 6] }
def impl_recordAt.k (M : Nat → Option Body) : Prop := M 105 = some (.code impl_recordAt.m) ∧ impl_within.k M ∧ impl_Unsealed.k M ∧ impl_ReadShort.k M
def impl_ReadRecords.l0 : C := .block 1 (.seq (.reg [⟨some 11, .mv (.t 0), none⟩,
    ⟨some 12, .mv (.t 5), none⟩,
    ⟨some 13, .call 105 [.t 11, .t 12] [] [], none⟩,
    ⟨some 10, .mv (.t 13), none⟩,
    ⟨some 14, .ext 0 (.t 10), none⟩,
    ⟨some 15, .ext 1 (.t 10), none⟩,
    ⟨some 16, .ext 2 (.t 10), none⟩,
    ⟨some 6, .mv (.t 14), none⟩,
    ⟨some 7, .mv (.t 15), none⟩,
    ⟨some 8, .mv (.t 16), none⟩] [0, 4, 5, 6, 7, 8] [9, 24])
  (.seq (.seq (.reg [⟨some 17, .mv (.t 8), none⟩,
    ⟨some 18, .not (.t 17), none⟩] [0, 4, 5, 6, 7, 18] [9, 24])
  (.cond (.t 18) (.seq (.reg [⟨some 19, .mv (.t 4), none⟩,
    ⟨some 20, .mv (.t 5), none⟩,
    ⟨some 2, .mv (.t 19), none⟩,
    ⟨some 3, .mv (.t 20), none⟩] [2, 3] [2, 9, 24])
  (.ret)) (.skip)))
  (.seq (.reg [⟨some 21, .mv (.t 4), none⟩,
    ⟨some 22, .mv (.t 6), none⟩,
    ⟨some 23, .bslice 1 1 [.str ⟨#[]⟩] [(0, .t 22)], none⟩,
    ⟨some 24, .app 1 16 (.t 21) (.t 23), none⟩,
    ⟨some 4, .mv (.t 24), none⟩] [0, 4, 7] [9, 24])
  (.reg [⟨some 25, .mv (.t 7), none⟩,
    ⟨some 5, .mv (.t 25), none⟩] [0, 4, 5] [9, 24]))))
def impl_ReadRecords.b : C := .seq (.reg [⟨some 2, .nil 1, none⟩,
    ⟨some 3, .mv (.k (.int .i64 0)), none⟩] [0] [])
  (.seq (.reg [⟨some 9, .bslice 1 0 [.str ⟨#[]⟩] [], none⟩,
    ⟨some 4, .mv (.t 9), none⟩] [0, 4] [9, 24])
  (.seq (.reg [⟨some 5, .mv (.k (.int .i64 0)), none⟩] [0, 4, 5] [9, 24])
  (.block 0 (.loop impl_ReadRecords.l0))))
def impl_ReadRecords.m : Fn := { np := 1, body := impl_ReadRecords.b, res := [.tmp 2, .tmp 3] }
def impl_ReadRecords.k (M : Nat → Option Body) : Prop := M 13 = some (.code impl_ReadRecords.m) ∧ impl_recordAt.k M
def laws_eqStringS.l0 : C := .seq (.seq (.reg [⟨some 11, .mv (.t 5), none⟩,
    ⟨some 12, .mv (.t 0), none⟩,
    ⟨some 13, .len (.t 12), none⟩,
    ⟨some 14, .bin .lss (.t 11) (.t 13), none⟩] [0, 1, 5, 14] [])
  (.cond (.t 14) (.skip) (.exit 0)))
  (.seq (.block 1 (.seq (.regd [⟨some 17, .mv (.t 0), none⟩,
    ⟨some 18, .mv (.t 5), none⟩,
    ⟨some 19, .iaddr 1 (.t 17) (.t 18), none⟩,
    ⟨some 20, .load false 1 (.t 19), none⟩,
    ⟨some 21, .mv (.t 1), none⟩,
    ⟨some 22, .mv (.t 5), none⟩,
    ⟨some 23, .iaddr 1 (.t 21) (.t 22), none⟩,
    ⟨some 24, .load false 1 (.t 23), none⟩,
    ⟨some 25, .bin .neq (.t 20) (.t 24), none⟩] [[], [], [0, 1], [0, 1, 2], [], [], [4, 5], [4, 5, 6], [0, 1, 2, 3, 4, 5, 6, 7]] [0, 1, 5, 25] [])
  (.cond (.t 25) (.seq (.reg [⟨some 4, .mv (.k (.bool false)), none⟩] [4] [])
  (.ret)) (.skip))))
  (.reg [⟨some 15, .mv (.t 5), none⟩,
    ⟨some 16, .bin .add (.t 15) (.k (.int .i64 1)), none⟩,
    ⟨some 5, .mv (.t 16), none⟩] [0, 1, 5] []))
def laws_eqStringS.b : C := .seq (.reg [⟨some 4, .mv (.k (.bool false)), none⟩] [0, 1] [])
  (.seq (.seq (.reg [⟨some 6, .mv (.t 0), none⟩,
    ⟨some 7, .len (.t 6), none⟩,
    ⟨some 8, .mv (.t 1), none⟩,
    ⟨some 9, .len (.t 8), none⟩,
    ⟨some 10, .bin .neq (.t 7) (.t 9), none⟩] [0, 1, 10] [])
  (.cond (.t 10) (.seq (.reg [⟨some 4, .mv (.k (.bool false)), none⟩] [4] [])
  (.ret)) (.skip)))
  (.seq (.seq (.reg [⟨some 5, .mv (.k (.int .i64 0)), none⟩] [0, 1, 5] [])
  (.block 0 (.loop laws_eqStringS.l0)))
  (.seq (.reg [⟨some 4, .mv (.k (.bool true)), none⟩] [4] [])
  (.ret))))
def laws_eqStringS.m : Fn := { np := 2, body := laws_eqStringS.b, res := [.tmp 4] }
def laws_eqStringS.k (M : Nat → Option Body) : Prop := M 14 = some (.code laws_eqStringS.m)
def laws_markText.l0 : C := .seq (.seq (.reg [⟨some 6, .mv (.t 0), none⟩,
    ⟨some 7, .bin .gtr (.t 6) (.k (.int .i64 0)), none⟩] [0, 3, 7] [])
  (.cond (.t 7) (.skip) (.exit 0)))
  (.block 1 (.seq (.reg [⟨some 8, .mv (.t 0), none⟩,
    ⟨some 9, .bin .rem (.t 8) (.k (.int .i64 10)), none⟩,
    ⟨some 10, .bin .add (.k (.int .i64 48)) (.t 9), none⟩,
    ⟨some 11, .i2i .u8 (.t 10), none⟩,
    ⟨some 12, .bslice 1 1 [.int .u8 0] [(0, .t 11)], none⟩,
    ⟨some 13, .b2s (.t 12), none⟩,
    ⟨some 14, .mv (.t 3), none⟩,
    ⟨some 15, .bin .add (.t 13) (.t 14), none⟩,
    ⟨some 3, .mv (.t 15), none⟩] [0, 3] [])
  (.reg [⟨some 16, .mv (.t 0), none⟩,
    ⟨some 17, .bin .quo (.t 16) (.k (.int .i64 10)), none⟩,
    ⟨some 0, .mv (.t 17), none⟩] [0, 3] [])))
def laws_markText.b : C := .seq (.reg [⟨some 2, .mv (.k (.str ⟨#[]⟩)), none⟩] [0] [])
  (.seq (.seq (.reg [⟨some 4, .mv (.t 0), none⟩,
    ⟨some 5, .bin .leq (.t 4) (.k (.int .i64 0)), none⟩] [0, 5] [])
  (.cond (.t 5) (.seq (.reg [⟨some 2, .mv (.k (.str ⟨#[109, 48]⟩)), none⟩] [2] [])
  (.ret)) (.skip)))
  (.seq (.reg [⟨some 3, .mv (.k (.str ⟨#[]⟩)), none⟩] [0, 3] [])
  (.seq (.block 0 (.loop laws_markText.l0))
  (.seq (.reg [⟨some 18, .mv (.t 3), none⟩,
    ⟨some 19, .bin .add (.k (.str ⟨#[109]⟩)) (.t 18), none⟩,
    ⟨some 2, .mv (.t 19), none⟩] [2] [])
  (.ret)))))
def laws_markText.m : Fn := { np := 1, body := laws_markText.b, res := [.tmp 2] }
def laws_markText.k (M : Nat → Option Body) : Prop := M 106 = some (.code laws_markText.m)
def laws_markStringS.l0 : C := .seq (.seq (.reg [⟨some 6, .mv (.t 5), none⟩,
    ⟨some 7, .mv (.t 0), none⟩,
    ⟨some 8, .len (.t 7), none⟩,
    ⟨some 9, .bin .lss (.t 6) (.t 8), none⟩] [0, 1, 5, 9] [0])
  (.cond (.t 9) (.skip) (.exit 0)))
  (.seq (.block 1 (.seq (.reg [⟨some 12, .mv (.t 0), none⟩,
    ⟨some 13, .mv (.t 5), none⟩,
    ⟨some 14, .mv (.t 1), none⟩,
    ⟨some 15, .call 106 [.t 14] [] [], none⟩,
    ⟨some 16, .iaddr 1 (.t 12) (.t 13), none⟩,
    ⟨none, .store 1 (.t 16) (.t 15), none⟩] [0, 1, 5] [0])
  (.reg [⟨some 17, .mv (.t 1), none⟩,
    ⟨some 18, .bin .add (.t 17) (.k (.int .i64 1)), none⟩,
    ⟨some 1, .mv (.t 18), none⟩] [0, 1, 5] [0])))
  (.reg [⟨some 10, .mv (.t 5), none⟩,
    ⟨some 11, .bin .add (.t 10) (.k (.int .i64 1)), none⟩,
    ⟨some 5, .mv (.t 11), none⟩] [0, 1, 5] [0]))
def laws_markStringS.b : C := .seq (.reg [⟨some 4, .mv (.k (.int .i64 0)), none⟩] [0, 1] [0])
  (.seq (.seq (.reg [⟨some 5, .mv (.k (.int .i64 0)), none⟩] [0, 1, 5] [0])
  (.block 0 (.loop laws_markStringS.l0)))
  (.seq (.reg [⟨some 19, .mv (.t 1), none⟩,
    ⟨some 4, .mv (.t 19), none⟩] [4] [0])
  (.ret)))
def laws_markStringS.m : Fn := { np := 2, body := laws_markStringS.b, res := [.tmp 4] }
def laws_markStringS.k (M : Nat → Option Body) : Prop := M 15 = some (.code laws_markStringS.m) ∧ laws_markText.k M
def laws_heldStringS.l0 : C := .seq (.seq (.reg [⟨some 6, .mv (.t 5), none⟩,
    ⟨some 7, .mv (.t 0), none⟩,
    ⟨some 8, .len (.t 7), none⟩,
    ⟨some 9, .bin .lss (.t 6) (.t 8), none⟩] [0, 1, 5, 9] [])
  (.cond (.t 9) (.skip) (.exit 0)))
  (.seq (.block 1 (.seq (.seq (.regd [⟨some 12, .mv (.t 0), none⟩,
    ⟨some 13, .mv (.t 5), none⟩,
    ⟨some 14, .iaddr 1 (.t 12) (.t 13), none⟩,
    ⟨some 15, .load false 1 (.t 14), none⟩,
    ⟨some 16, .mv (.t 1), none⟩,
    ⟨some 17, .call 106 [.t 16] [] [], none⟩,
    ⟨some 18, .bin .neq (.t 15) (.t 17), none⟩] [[], [], [0, 1], [0, 1, 2], [], [4], [0, 1, 2, 3, 4, 5]] [0, 1, 5, 18] [])
  (.cond (.t 18) (.seq (.reg [⟨some 4, .mv (.k (.int .i64 (-1))), none⟩] [4] [])
  (.ret)) (.skip)))
  (.reg [⟨some 19, .mv (.t 1), none⟩,
    ⟨some 20, .bin .add (.t 19) (.k (.int .i64 1)), none⟩,
    ⟨some 1, .mv (.t 20), none⟩] [0, 1, 5] [])))
  (.reg [⟨some 10, .mv (.t 5), none⟩,
    ⟨some 11, .bin .add (.t 10) (.k (.int .i64 1)), none⟩,
    ⟨some 5, .mv (.t 11), none⟩] [0, 1, 5] []))
def laws_heldStringS.b : C := .seq (.reg [⟨some 4, .mv (.k (.int .i64 0)), none⟩] [0, 1] [])
  (.seq (.seq (.reg [⟨some 5, .mv (.k (.int .i64 0)), none⟩] [0, 1, 5] [])
  (.block 0 (.loop laws_heldStringS.l0)))
  (.seq (.reg [⟨some 21, .mv (.t 1), none⟩,
    ⟨some 4, .mv (.t 21), none⟩] [4] [])
  (.ret)))
def laws_heldStringS.m : Fn := { np := 2, body := laws_heldStringS.b, res := [.tmp 4] }
def laws_heldStringS.k (M : Nat → Option Body) : Prop := M 16 = some (.code laws_heldStringS.m) ∧ laws_markText.k M
def laws_FnExactReadRecords.b : C := .seq (.reg [⟨some 2, .mv (.k (.bool false)), none⟩] [0] [])
  (.seq (.seq (.reg [⟨some 11, .mv (.t 0), none⟩,
    ⟨some 12, .slen (.t 11), none⟩,
    ⟨some 13, .bin .gtr (.t 12) (.k (.int .i64 1048576)), none⟩] [0, 13] [])
  (.cond (.t 13) (.seq (.reg [⟨some 2, .mv (.k (.bool true)), none⟩] [2] [])
  (.ret)) (.skip)))
  (.seq (.reg [⟨some 15, .mv (.t 0), none⟩,
    ⟨some 16, .call 12 [.t 15] [] [], none⟩,
    ⟨some 14, .mv (.t 16), none⟩,
    ⟨some 17, .ext 0 (.t 14), none⟩,
    ⟨some 18, .ext 1 (.t 14), none⟩,
    ⟨some 3, .mv (.t 17), none⟩,
    ⟨some 4, .mv (.t 18), none⟩] [0, 3, 4] [])
  (.seq (.reg [⟨some 20, .mv (.t 0), none⟩,
    ⟨some 21, .call 13 [.t 20] [] [(0, 12100)], none⟩,
    ⟨some 19, .mv (.t 21), none⟩,
    ⟨some 22, .ext 0 (.t 19), none⟩,
    ⟨some 23, .ext 1 (.t 19), none⟩,
    ⟨some 5, .mv (.t 22), none⟩,
    ⟨some 6, .mv (.t 23), none⟩] [0, 3, 4, 5, 6] [12100])
  (.seq (.seq (.reg [⟨some 24, .mv (.t 5), none⟩,
    ⟨some 25, .mv (.t 3), none⟩,
    ⟨some 26, .call 14 [.t 24, .t 25] [] [], none⟩,
    ⟨some 27, .not (.t 26), none⟩,
    ⟨some 28, .mv (.t 27), none⟩,
    ⟨some 29, .mv (.t 6), some (28, false)⟩,
    ⟨some 30, .mv (.t 4), some (28, false)⟩,
    ⟨some 31, .bin .neq (.t 29) (.t 30), some (28, false)⟩,
    ⟨some 32, .pick (.t 28) (.k (.bool true)) (.t 31), none⟩] [0, 3, 4, 5, 32] [12100])
  (.cond (.t 32) (.seq (.reg [⟨some 2, .mv (.k (.bool false)), none⟩] [2] [])
  (.ret)) (.skip)))
  (.seq (.reg [⟨some 7, .mv (.k (.int .i64 1)), none⟩] [0, 3, 4, 5, 7] [12100])
  (.seq (.reg [⟨some 33, .mv (.t 5), none⟩,
    ⟨some 34, .mv (.t 7), none⟩,
    ⟨some 35, .call 15 [.t 33, .t 34] [0] [], none⟩,
    ⟨some 7, .mv (.t 35), none⟩] [0, 3, 4, 5, 7] [12100])
  (.seq (.reg [⟨some 8, .mv (.k (.int .i64 1)), none⟩] [0, 3, 4, 5, 7, 8] [12100])
  (.seq (.reg [⟨some 36, .mv (.t 5), none⟩,
    ⟨some 37, .mv (.t 8), none⟩,
    ⟨some 38, .call 16 [.t 36, .t 37] [] [], none⟩,
    ⟨some 8, .mv (.t 38), none⟩] [0, 3, 4, 5, 7, 8] [12100])
  (.seq (.seq (.reg [⟨some 39, .mv (.t 8), none⟩,
    ⟨some 40, .bin .lss (.t 39) (.k (.int .i64 0)), none⟩] [0, 3, 4, 5, 7, 8, 40] [12100])
  (.cond (.t 40) (.seq (.reg [⟨some 2, .mv (.k (.bool false)), none⟩] [2] [])
  (.ret)) (.skip)))
  (.seq (.seq (.reg [⟨some 41, .mv (.t 8), none⟩,
    ⟨some 42, .mv (.t 7), none⟩,
    ⟨some 43, .bin .neq (.t 41) (.t 42), none⟩] [0, 3, 4, 5, 7, 43] [12100])
  (.cond (.t 43) (.seq (.reg [⟨some 2, .mv (.k (.bool false)), none⟩] [2] [])
  (.ret)) (.skip)))
  (.seq (.reg [⟨some 45, .mv (.t 0), none⟩,
    ⟨some 46, .call 13 [.t 45] [] [], none⟩,
    ⟨some 44, .mv (.t 46), none⟩,
    ⟨some 47, .ext 0 (.t 44), none⟩,
    ⟨some 48, .ext 1 (.t 44), none⟩,
    ⟨some 9, .mv (.t 47), none⟩,
    ⟨some 10, .mv (.t 48), none⟩] [3, 4, 5, 7, 9, 10] [12100])
  (.seq (.seq (.reg [⟨some 49, .mv (.t 9), none⟩,
    ⟨some 50, .mv (.t 3), none⟩,
    ⟨some 51, .call 14 [.t 49, .t 50] [] [], none⟩,
    ⟨some 52, .not (.t 51), none⟩,
    ⟨some 53, .mv (.t 52), none⟩,
    ⟨some 54, .mv (.t 10), some (53, false)⟩,
    ⟨some 55, .mv (.t 4), some (53, false)⟩,
    ⟨some 56, .bin .neq (.t 54) (.t 55), some (53, false)⟩,
    ⟨some 57, .pick (.t 53) (.k (.bool true)) (.t 56), none⟩] [5, 7, 57] [12100])
  (.cond (.t 57) (.seq (.reg [⟨some 2, .mv (.k (.bool false)), none⟩] [2] [])
  (.ret)) (.skip)))
  (.seq (.reg [⟨some 8, .mv (.k (.int .i64 1)), none⟩] [5, 7, 8] [12100])
  (.seq (.reg [⟨some 58, .mv (.t 5), none⟩,
    ⟨some 59, .mv (.t 8), none⟩,
    ⟨some 60, .call 16 [.t 58, .t 59] [] [], none⟩,
    ⟨some 8, .mv (.t 60), none⟩] [7, 8] [])
  (.seq (.seq (.reg [⟨some 61, .mv (.t 8), none⟩,
    ⟨some 62, .bin .lss (.t 61) (.k (.int .i64 0)), none⟩] [7, 8, 62] [])
  (.cond (.t 62) (.seq (.reg [⟨some 2, .mv (.k (.bool false)), none⟩] [2] [])
  (.ret)) (.skip)))
  (.seq (.seq (.reg [⟨some 63, .mv (.t 8), none⟩,
    ⟨some 64, .mv (.t 7), none⟩,
    ⟨some 65, .bin .neq (.t 63) (.t 64), none⟩] [65] [])
  (.cond (.t 65) (.seq (.reg [⟨some 2, .mv (.k (.bool false)), none⟩] [2] [])
  (.ret)) (.skip)))
  (.seq (.reg [⟨some 2, .mv (.k (.bool true)), none⟩] [2] [])
  (.ret))))))))))))))))))
def laws_FnExactReadRecords.m : Fn := { np := 1, body := laws_FnExactReadRecords.b, res := [.tmp 2] }
def laws_FnExactReadRecords.k (M : Nat → Option Body) : Prop := M 364 = some (.code laws_FnExactReadRecords.m) ∧ spec_ReadRecords.k M ∧ impl_ReadRecords.k M ∧ laws_eqStringS.k M ∧ laws_markStringS.k M ∧ laws_heldStringS.k M
end Mx

/-
  What ReadVar and ReadShort answer.
-/
namespace Mx
open Go
variable {M : Nat → Option Body}
def pw (k : Nat) : Nat := 128 ^ k
/-- a number read from a place on; d: how many bytes may come; k: how many came; n: what they are -/
def rvGo (l : List UInt8) (a : Nat) : Nat → Nat → Nat → Option (Nat × Nat × Bool)
  | 0, _, _ => none
  | d + 1, k, n => if h : a + k < l.length then
      if l[a + k].toNat < 128 then some (if n + l[a + k].toNat % 128 * pw k ≤ 1000000000 ∧ varT (n + l[a + k].toNat % 128 * pw k) = (l.drop a).take (k + 1) then (n + l[a + k].toNat % 128 * pw k, a + k + 1, true) else (0, 0, false))
      else rvGo l a d (k + 1) (n + l[a + k].toNat % 128 * pw k)
    else none
def readVar (l : List UInt8) (a : Int) : Nat × Nat × Bool := if 0 ≤ a ∧ a ≤ l.length then (rvGo l a.toNat 5 0 0).getD (0, 0, false) else (0, 0, false)
theorem rvGo_end (l : List UInt8) (a d k n : Nat) (h : ¬ a + k < l.length) : rvGo l a d k n = none := by
  cases d with
  | zero => rfl
  | succ d => rw [rvGo, dif_neg h]
theorem rvGo_le (l : List UInt8) (a : Nat) : ∀ d k n r, rvGo l a d k n = some r → r.1 ≤ 1000000000 ∧ r.2.1 ≤ l.length ∧ (r.2.2 = true → a + k < r.2.1)
  | 0, k, n, r, h => by simp [rvGo] at h
  | d + 1, k, n, r, hr => by
    rw [rvGo] at hr
    by_cases h : a + k < l.length
    · rw [dif_pos h] at hr
      split at hr
      · simp only [Option.some.injEq] at hr
        subst hr
        split
        · rename_i hc
          exact ⟨hc.1, by simp only; omega, fun _ => by simp only; omega⟩
        · simp
      · have := rvGo_le l a d (k + 1) _ r hr
        exact ⟨this.1, this.2.1, fun q => by have := this.2.2 q; omega⟩
    · rw [dif_neg h] at hr; cases hr
theorem readVar_le (l : List UInt8) (a : Int) : (readVar l a).1 ≤ 1000000000 ∧ (readVar l a).2.1 ≤ l.length ∧ ((readVar l a).2.2 = true → 0 ≤ a ∧ a < (readVar l a).2.1) := by
  unfold readVar
  split
  · rename_i h
    cases hg : rvGo l a.toNat 5 0 0 with
    | none => simp
    | some r =>
      have := rvGo_le l a.toNat 5 0 0 r hg
      exact ⟨this.1, this.2.1, fun q => ⟨h.1, by have := this.2.2 q; simp only [Option.getD_some]; omega⟩⟩
  · simp
def spR (l : List UInt8) (a : Nat) (s : Nat × Nat) (x : Nat) : St := { t := [(0, .c (S l)), (1, .c (I a)), (7, .c (I s.2)), (8, .c (I (pw s.1 : Nat))), (9, .c (I ((a : Int) + s.1)))], o := [], n := x }
def rvFin (q : Option (Nat × Nat × Bool)) (m : St) : Out × St := match q with
  | some r => (.ret, { t := [(4, .c (I r.1)), (5, .c (I r.2.1)), (6, .c (.bool r.2.2))], o := [], n := m.n })
  | none => (.exit 0, m)
theorem rvFin_ne (q : Option (Nat × Nat × Bool)) (m : St) : (rvFin q m).1 ≠ .normal := by
  cases q <;> simp [rvFin]
theorem pow_le5 {k : Nat} (h : k ≤ 5) : pw k ≤ 34359738368 := by
  have : k = 0 ∨ k = 1 ∨ k = 2 ∨ k = 3 ∨ k = 4 ∨ k = 5 := by omega
  rcases this with rfl | rfl | rfl | rfl | rfl | rfl <;> decide +kernel
theorem pw_succ (k : Nat) : pw (k + 1) = pw k * 128 := Nat.pow_succ 128 k
theorem step_lt {n k b : Nat} (h : n < pw k) : n + b % 128 * pw k < pw (k + 1) := by
  have h1 : b % 128 ≤ 127 := by omega
  have h2 : b % 128 * pw k ≤ 127 * pw k := Nat.mul_le_mul_right _ h1
  rw [pw_succ]; omega
theorem spec_ReadVar.says (h : spec_ReadVar.k M) (l : List UInt8) (hl : l.length ≤ 4611686018427387904) (a : Int) :
    run M 221 [.c (S l), .c (I a)] [] = some (.tup [.c (I (readVar l a).1), .c (I (readVar l a).2.1), .c (.bool (readVar l a).2.2)], []) := by
  obtain ⟨h0, k1, k2⟩ := h
  have hw := spec_l01In.says k1 a 0 l.length
  refine run_code (b := spec_ReadVar.m) h0 ⟨7, ?_⟩
  by_cases c : 0 ≤ a ∧ a ≤ l.length
  rotate_left
  · have hb : (decide (0 ≤ a) && decide (a ≤ (l.length : Int))) = false := by
      rw [Bool.eq_false_iff]; intro hh; simp only [Bool.and_eq_true, decide_eq_true_eq] at hh; omega
    rw [hb] at hw
    simp [exB, spec_ReadVar.m, spec_ReadVar.b, List.range_succ, hw, readVar, c]
  obtain ⟨c1, c2⟩ := c
  obtain ⟨a, rfl⟩ := Int.eq_ofNat_of_zero_le c1
  have c3 : a ≤ l.length := by omega
  simp [c1, c3] at hw
  obtain ⟨g, hr⟩ := loop_all (f := exC (run M) 7 spec_ReadVar.l0) (spR l a) (fun s => s.1 ≤ 5 ∧ s.2 < pw s.1) (fun s => 5 - s.1) (fun s => rvGo l a (5 - s.1) s.1 s.2) rvFin
    (by
      rintro ⟨k, n⟩ x ⟨h1, h2⟩
      simp only at h1 h2
      have hp := pow_le5 h1
      have e2 : IntKind.i64.wrap ((a : Int) + 5) = (a : Int) + 5 := wrap_i64 (by omega) (by omega)
      have stop : (∃ m, exC (run M) 7 spec_ReadVar.l0 (spR l a (k, n) x) = some (rvFin (rvGo l a (5 - k) k n) m)) → (∃ s' y, exC (run M) 7 spec_ReadVar.l0 (spR l a (k, n) x) = some (.normal, spR l a s' y) ∧ (s'.1 ≤ 5 ∧ s'.2 < pw s'.1) ∧ 5 - s'.1 < 5 - (k, n).1 ∧ rvGo l a (5 - s'.1) s'.1 s'.2 = rvGo l a (5 - (k, n).1) (k, n).1 (k, n).2) ∨ (∃ z, exC (run M) 7 spec_ReadVar.l0 (spR l a (k, n) x) = some (rvFin (rvGo l a (5 - (k, n).1) (k, n).1 (k, n).2) z) ∧ (rvFin (rvGo l a (5 - (k, n).1) (k, n).1 (k, n).2) z).1 ≠ .normal) := fun ⟨m, hm⟩ => .inr ⟨m, hm, rvFin_ne _ _⟩
      by_cases hlt : a + k < l.length
      rotate_left
      · have d1 : ¬ (a : Int) + k < l.length := by omega
        refine stop ?_
        simp only [rvGo_end l a _ k n hlt, rvFin]
        simp [spR, spec_ReadVar.l0, d1]
      have d1 : (a : Int) + k < l.length := by omega
      by_cases h5 : k < 5
      rotate_left
      · have : k = 5 := by omega
        subst this
        refine stop ?_
        simp only [Nat.sub_self, rvGo, rvFin]
        simp at d1
        simp [spR, spec_ReadVar.l0, d1, e2]
      have d2 : (a : Int) + k < a + 5 := by omega
      have hs := step_lt (b := l[a + k].toNat) h2
      have hp' := pow_le5 (k := k + 1) (by omega)
      have hd : 5 - k = (5 - (k + 1)) + 1 := by omega
      obtain ⟨b, hb⟩ : ∃ b, l[a + k] = b := ⟨_, rfl⟩
      rw [hb] at hs
      have hbl := b.toNat_lt
      have e3 : IntKind.i64.wrap (b.toNat : Int) = b.toNat := wrap_i64 (by omega) (by omega)
      have q4 : ((b.toNat : Int) % 128 * (pw k : Nat)) = ((b.toNat % 128 * pw k : Nat) : Int) := by push_cast; rfl
      have e4 : IntKind.i64.wrap ((b.toNat : Int) % 128 * (pw k : Nat)) = (b.toNat : Int) % 128 * (pw k : Nat) := by rw [q4]; exact wrap_i64 (by omega) (by omega)
      have e5 : IntKind.i64.wrap ((n : Int) + (b.toNat : Int) % 128 * (pw k : Nat)) = (n : Int) + (b.toNat : Int) % 128 * (pw k : Nat) := by rw [q4]; exact wrap_i64 (by omega) (by omega)
      have e6 : IntKind.i64.wrap (((pw k : Nat) : Int) * 128) = ((pw (k + 1) : Nat) : Int) := by
        rw [show ((pw k : Nat) : Int) * 128 = ((pw (k + 1) : Nat) : Int) by rw [pw_succ]; push_cast; rfl]
        exact wrap_i64 (by omega) (by omega)
      have e7 : IntKind.i64.wrap ((a : Int) + k + 1) = (a : Int) + (k + 1) := by rw [wrap_i64 (by omega) (by omega)]; omega
      have e8 : ((a : Int) + k).toNat = a + k := by omega
      have e9 : (b.toNat : Int).tmod 128 = (b.toNat : Int) % 128 := Int.tmod_eq_emod_of_nonneg (by omega)
      have h1' := spec_l01Var.says k2 (n + b.toNat % 128 * pw k) (by omega)
      simp only [Int.natCast_add, Int.natCast_mul, Int.natCast_emod, Int.cast_ofNat_Int] at h1'
      have f0 : (0 : Int) ≤ (a : Int) + k := by omega
      by_cases hb128 : b.toNat < 128
      rotate_left
      · left
        have b1 : ¬ (b.toNat : Int) < 128 := by omega
        obtain ⟨y, hy⟩ : ∃ y, exC (run M) 7 spec_ReadVar.l0 (spR l a (k, n) x) = some (.normal, spR l a (k + 1, n + b.toNat % 128 * pw k) y) := by
          simp [spR, spec_ReadVar.l0, d1, d2, e2, e3, e4, e5, e6, e7, e8, e9, f0, hlt, bs_get, hb, b1]
        refine ⟨(k + 1, n + b.toNat % 128 * pw k), y, hy, ⟨h5, hs⟩, by simp only; omega, ?_⟩
        simp only [hd]
        rw [rvGo, dif_pos hlt, hb, if_neg hb128]
      refine stop ?_
      have b1 : (b.toNat : Int) < 128 := by omega
      rw [hd, rvGo, dif_pos hlt, hb, if_pos hb128]
      have f1 : (0 : Int) ≤ (a : Int) + (k + 1) := by omega
      have f2 : ((a : Int) + (k + 1)).toNat = a + (k + 1) := by omega
      by_cases hN : n + b.toNat % 128 * pw k ≤ 1000000000
      rotate_left
      · rw [if_neg (fun q => hN q.1)]
        have hN' : 1000000000 < (n : Int) + (b.toNat : Int) % 128 * (pw k : Nat) := by rw [q4]; omega
        simp [rvFin, spR, spec_ReadVar.l0, d1, d2, e2, e3, e4, e5, e6, e7, e8, e9, f0, hlt, bs_get, hb, b1, hN']
        exact ⟨⟨[], [], _⟩, rfl⟩
      have hN' : ¬ 1000000000 < (n : Int) + (b.toNat : Int) % 128 * (pw k : Nat) := by rw [q4]; omega
      obtain ⟨w, hw'⟩ : ∃ w, (l.drop a).take (k + 1) = w := ⟨_, rfl⟩
      have w1 : (l.take (a + (k + 1))).drop a = w := by rw [← hw', List.drop_take]; congr 1; omega
      have w2 : (l.drop a).take (a + (k + 1) - a) = w := by rw [← hw']; congr 1; omega
      have g1 : a ≤ a + (k + 1) ∧ a + (k + 1) ≤ l.length := by omega
      rw [hw']
      by_cases hv : varT (n + b.toNat % 128 * pw k) = w
      · rw [if_pos ⟨hN, hv⟩]
        simp [rvFin, spR, spec_ReadVar.l0, d1, d2, e2, e3, e4, e5, e6, e7, e8, e9, f0, hlt, bs_get, hb, b1, hN', h1', f1, f2, w1, w2, g1, hv]
        exact ⟨by omega, ⟨[], [], _⟩, rfl⟩
      · rw [if_neg (fun q => hv q.2)]
        simp [rvFin, spR, spec_ReadVar.l0, d1, d2, e2, e3, e4, e5, e6, e7, e8, e9, f0, hlt, bs_get, hb, b1, hN', h1', f1, f2, w1, w2, g1, hv]
        exact ⟨⟨[], [], _⟩, rfl⟩)
    7 (0, 0) ⟨by simp, by simp [pw]⟩ (by simp)
  simp only [Nat.sub_zero] at hr
  have hp0 : pw 0 = 1 := rfl
  simp only [readVar]
  rw [if_pos ⟨c1, c2⟩]
  simp only [Int.toNat_natCast]
  cases hg : rvGo l a 5 0 0 with
  | none =>
    simp [spR, hg, rvFin, hp0] at hr
    simp [exB, spec_ReadVar.m, spec_ReadVar.b, List.range_succ, hw, hr]
  | some r =>
    simp [spR, hg, rvFin, hp0] at hr
    simp [exB, spec_ReadVar.m, spec_ReadVar.b, List.range_succ, hw, hr]

def imR (l : List UInt8) (a : Nat) (s : Nat × Nat) (x : Nat) : St := { t := [(0, .c (S l)), (1, .c (I a)), (7, .c (I s.2)), (8, .c (I s.1))], o := [], n := x }
theorem impl_ReadVar.says (h : impl_ReadVar.k M) (l : List UInt8) (hl : l.length ≤ 4611686018427387904) (a : Int) :
    run M 231 [.c (S l), .c (I a)] [] = some (.tup [.c (I (readVar l a).1), .c (I (readVar l a).2.1), .c (.bool (readVar l a).2.2)], []) := by
  obtain ⟨h0, k1, k2⟩ := h
  have hw := impl_within.says k1 a 0 l.length
  refine run_code (b := impl_ReadVar.m) h0 ⟨7, ?_⟩
  by_cases c : 0 ≤ a ∧ a ≤ l.length
  rotate_left
  · have hb : (decide (0 ≤ a) && decide (a ≤ (l.length : Int))) = false := by
      rw [Bool.eq_false_iff]; intro hh; simp only [Bool.and_eq_true, decide_eq_true_eq] at hh; omega
    rw [hb] at hw
    simp [exB, impl_ReadVar.m, impl_ReadVar.b, List.range_succ, hw, readVar, c]
  obtain ⟨c1, c2⟩ := c
  obtain ⟨a, rfl⟩ := Int.eq_ofNat_of_zero_le c1
  have c3 : a ≤ l.length := by omega
  simp [c1, c3] at hw
  obtain ⟨g, hr⟩ := loop_all (f := exC (run M) 7 impl_ReadVar.l0) (imR l a) (fun s => s.1 ≤ 5 ∧ s.2 < pw s.1) (fun s => 5 - s.1) (fun s => rvGo l a (5 - s.1) s.1 s.2) rvFin
    (by
      rintro ⟨k, n⟩ x ⟨h1, h2⟩
      simp only at h1 h2
      have hp := pow_le5 h1
      have stop : (∃ m, exC (run M) 7 impl_ReadVar.l0 (imR l a (k, n) x) = some (rvFin (rvGo l a (5 - k) k n) m)) → (∃ s' y, exC (run M) 7 impl_ReadVar.l0 (imR l a (k, n) x) = some (.normal, imR l a s' y) ∧ (s'.1 ≤ 5 ∧ s'.2 < pw s'.1) ∧ 5 - s'.1 < 5 - (k, n).1 ∧ rvGo l a (5 - s'.1) s'.1 s'.2 = rvGo l a (5 - (k, n).1) (k, n).1 (k, n).2) ∨ (∃ z, exC (run M) 7 impl_ReadVar.l0 (imR l a (k, n) x) = some (rvFin (rvGo l a (5 - (k, n).1) (k, n).1 (k, n).2) z) ∧ (rvFin (rvGo l a (5 - (k, n).1) (k, n).1 (k, n).2) z).1 ≠ .normal) := fun ⟨m, hm⟩ => .inr ⟨m, hm, rvFin_ne _ _⟩
      by_cases h5 : k < 5
      rotate_left
      · have : k = 5 := by omega
        subst this
        refine stop ?_
        simp only [Nat.sub_self, rvGo, rvFin]
        simp [imR, impl_ReadVar.l0]
      have d2 : (k : Int) < 5 := by omega
      have e0 : IntKind.i64.wrap ((a : Int) + k) = (a : Int) + k := wrap_i64 (by omega) (by omega)
      by_cases hlt : a + k < l.length
      rotate_left
      · have d1 : ¬ (a : Int) + k < l.length := by omega
        refine stop ?_
        simp only [rvGo_end l a _ k n hlt, rvFin]
        simp [imR, impl_ReadVar.l0, d1, d2, e0]
      have d1 : (a : Int) + k < l.length := by omega
      have hs := step_lt (b := l[a + k].toNat) h2
      have hp' := pow_le5 (k := k + 1) (by omega)
      have hd : 5 - k = (5 - (k + 1)) + 1 := by omega
      obtain ⟨b, hb⟩ : ∃ b, l[a + k] = b := ⟨_, rfl⟩
      rw [hb] at hs
      have hbl := b.toNat_lt
      have e3 : andI .u8 (b.toNat : Int) 127 = (b.toNat : Int) % 128 := by
        have := and_u8 b.toNat 127 (by omega) (by omega)
        rw [and_127] at this
        rw [show (127 : Int) = ((127 : Nat) : Int) from rfl, this]; omega
      have e3' : IntKind.i64.wrap ((b.toNat : Int) % 128) = (b.toNat : Int) % 128 := wrap_i64 (by omega) (by omega)
      have e4 : IntKind.i64.wrap (7 * (k : Int)) = 7 * (k : Int) := wrap_i64 (by omega) (by omega)
      have e4' : (7 * (k : Int)).toNat = 7 * k := by omega
      have e4'' : min (7 * k) 64 = 7 * k := by omega
      have q4 : ((b.toNat : Int) % 128 * (pw k : Nat)) = ((b.toNat % 128 * pw k : Nat) : Int) := by push_cast; rfl
      have q5 : (2 : Int) ^ (7 * k) = (pw k : Nat) := by
        unfold pw
        rw [Int.pow_mul]; push_cast; rfl
      have e5 : IntKind.i64.wrap ((b.toNat : Int) % 128 * (pw k : Nat)) = (b.toNat : Int) % 128 * (pw k : Nat) := by rw [q4]; exact wrap_i64 (by omega) (by omega)
      have e6 : orI .i64 (n : Int) ((b.toNat : Int) % 128 * (pw k : Nat)) = (n : Int) + (b.toNat : Int) % 128 * (pw k : Nat) := by
        rw [q4, or_i64 n (b.toNat % 128 * pw k) (by omega) (by omega)]
        have := or_high n (b.toNat % 128) k h2
        unfold pw at this ⊢
        rw [this]; push_cast; rfl
      have e7 : IntKind.i64.wrap ((k : Int) + 1) = (k : Int) + 1 := wrap_i64 (by omega) (by omega)
      have e7' : IntKind.i64.wrap ((a : Int) + k + 1) = (a : Int) + (k + 1) := by rw [wrap_i64 (by omega) (by omega)]; omega
      have e8 : ((a : Int) + k).toNat = a + k := by omega
      have h1' := impl_VarText.says k2 (n + b.toNat % 128 * pw k) (by omega)
      simp only [Int.natCast_add, Int.natCast_mul, Int.natCast_emod, Int.cast_ofNat_Int] at h1'
      have f0 : (0 : Int) ≤ (a : Int) + k := by omega
      have f3 : (0 : Int) ≤ 7 * (k : Int) := by omega
      have f4 : ¬ 7 * (k : Int) < 0 := by omega
      by_cases hb128 : b.toNat < 128
      rotate_left
      · left
        have b1 : 127 < (b.toNat : Int) := by omega
        obtain ⟨y, hy⟩ : ∃ y, exC (run M) 7 impl_ReadVar.l0 (imR l a (k, n) x) = some (.normal, imR l a (k + 1, n + b.toNat % 128 * pw k) y) := by
          simp [imR, impl_ReadVar.l0, d1, d2, e0, e3, e3', e4, e4', e4'', e5, e6, e7, e8, q5, f0, f3, f4, hlt, bs_get, hb, b1, IntKind.bits]
        refine ⟨(k + 1, n + b.toNat % 128 * pw k), y, hy, ⟨h5, hs⟩, by simp only; omega, ?_⟩
        simp only [hd]
        rw [rvGo, dif_pos hlt, hb, if_neg hb128]
      refine stop ?_
      have b1 : ¬ 127 < (b.toNat : Int) := by omega
      rw [hd, rvGo, dif_pos hlt, hb, if_pos hb128]
      have f1 : (0 : Int) ≤ (a : Int) + (k + 1) := by omega
      have f2 : ((a : Int) + (k + 1)).toNat = a + (k + 1) := by omega
      by_cases hN : n + b.toNat % 128 * pw k ≤ 1000000000
      rotate_left
      · rw [if_neg (fun q => hN q.1)]
        simp only [hN, if_false, decide_false] at h1'
        simp [rvFin, imR, impl_ReadVar.l0, d1, d2, e0, e3, e3', e4, e4', e4'', e5, e6, e7, e8, q5, f0, f3, f4, hlt, bs_get, hb, b1, h1', IntKind.bits]
        exact ⟨⟨[], [], _⟩, rfl⟩
      simp only [hN, if_true, decide_true] at h1'
      obtain ⟨w, hw'⟩ : ∃ w, (l.drop a).take (k + 1) = w := ⟨_, rfl⟩
      have w1 : (l.take (a + (k + 1))).drop a = w := by rw [← hw', List.drop_take]; congr 1; omega
      have w2 : (l.drop a).take (a + (k + 1) - a) = w := by rw [← hw']; congr 1; omega
      have g1 : a ≤ a + (k + 1) ∧ a + (k + 1) ≤ l.length := by omega
      rw [hw']
      by_cases hv : varT (n + b.toNat % 128 * pw k) = w
      · rw [if_pos ⟨hN, hv⟩]
        simp [rvFin, imR, impl_ReadVar.l0, d1, d2, e0, e3, e3', e4, e4', e4'', e5, e6, e7, e7', e8, q5, f0, f3, f4, hlt, bs_get, hb, b1, h1', f1, f2, w1, w2, g1, hv, IntKind.bits]
        exact ⟨by omega, ⟨[], [], _⟩, rfl⟩
      · rw [if_neg (fun q => hv q.2)]
        simp [rvFin, imR, impl_ReadVar.l0, d1, d2, e0, e3, e3', e4, e4', e4'', e5, e6, e7, e7', e8, q5, f0, f3, f4, hlt, bs_get, hb, b1, h1', f1, f2, w1, w2, g1, hv, IntKind.bits]
        exact ⟨⟨[], [], _⟩, rfl⟩)
    7 (0, 0) ⟨by simp, by simp [pw]⟩ (by simp)
  simp only [Nat.sub_zero] at hr
  simp only [readVar]
  rw [if_pos ⟨c1, c2⟩]
  simp only [Int.toNat_natCast]
  cases hg : rvGo l a 5 0 0 with
  | none =>
    simp [imR, hg, rvFin] at hr
    simp [exB, impl_ReadVar.m, impl_ReadVar.b, List.range_succ, hw, hr]
  | some r =>
    simp [imR, hg, rvFin] at hr
    simp [exB, impl_ReadVar.m, impl_ReadVar.b, List.range_succ, hw, hr]

/-- a short text read from a place on -/
def readShort (l : List UInt8) (a : Int) : List UInt8 × Nat × Bool :=
  if (readVar l a).2.2 = true ∧ (readVar l a).1 ≤ 20000 ∧ (readVar l a).1 + (readVar l a).2.1 ≤ l.length then ((l.drop (readVar l a).2.1).take (readVar l a).1, (readVar l a).2.1 + (readVar l a).1, true) else ([], 0, false)
theorem spec_ReadShort.says (h : spec_ReadShort.k M) (l : List UInt8) (hl : l.length ≤ 4611686018427387904) (a : Int) :
    run M 206 [.c (S l), .c (I a)] [] = some (.tup [.c (S (readShort l a).1), .c (I (readShort l a).2.1), .c (.bool (readShort l a).2.2)], []) := by
  have h1 := spec_ReadVar.says h.2 l hl a
  obtain ⟨q1, q2, _⟩ := readVar_le l a
  refine run_code (b := spec_ReadShort.m) h.1 ⟨0, ?_⟩
  unfold readShort
  generalize (readVar l a).1 = n at *
  generalize (readVar l a).2.1 = f at *
  generalize (readVar l a).2.2 = ok at *
  cases ok with
  | false => simp [exB, spec_ReadShort.m, spec_ReadShort.b, List.range_succ, h1]
  | true =>
    by_cases c1 : n ≤ 20000
    rotate_left
    · have c1' : 20000 < (n : Int) := by omega
      simp [exB, spec_ReadShort.m, spec_ReadShort.b, List.range_succ, h1, c1, c1']
    have c1' : ¬ 20000 < (n : Int) := by omega
    have e1 : IntKind.i64.wrap ((l.length : Int) - f) = (l.length : Int) - f := wrap_i64 (by omega) (by omega)
    by_cases c2 : n + f ≤ l.length
    rotate_left
    · have c2' : (l.length : Int) - f < n := by omega
      simp [exB, spec_ReadShort.m, spec_ReadShort.b, List.range_succ, h1, c1, c1', c2, c2', e1]
    have c2' : ¬ (l.length : Int) - f < n := by omega
    have e2 : IntKind.i64.wrap ((f : Int) + n) = (f : Int) + n := wrap_i64 (by omega) (by omega)
    have e3 : ((f : Int) + n).toNat = f + n := by omega
    have e4 : (0 : Int) ≤ (f : Int) + n := by omega
    have e5 : f ≤ f + n ∧ f + n ≤ l.length := by omega
    obtain ⟨w, hw⟩ : ∃ w, (l.drop f).take n = w := ⟨_, rfl⟩
    have w1 : (l.take (f + n)).drop f = w := by rw [← hw, List.drop_take]; congr 1; omega
    have w2 : (l.drop f).take (f + n - f) = w := by rw [← hw]; congr 1; omega
    simp [exB, spec_ReadShort.m, spec_ReadShort.b, List.range_succ, h1, c1, c1', c2, c2', e1, e2, e3, e4, e5, hw, w1, w2]
theorem impl_ReadShort.says (h : impl_ReadShort.k M) (l : List UInt8) (hl : l.length ≤ 4611686018427387904) (a : Int) :
    run M 207 [.c (S l), .c (I a)] [] = some (.tup [.c (S (readShort l a).1), .c (I (readShort l a).2.1), .c (.bool (readShort l a).2.2)], []) := by
  have h1 := impl_ReadVar.says h.2 l hl a
  obtain ⟨q1, q2, _⟩ := readVar_le l a
  refine run_code (b := impl_ReadShort.m) h.1 ⟨0, ?_⟩
  unfold readShort
  generalize (readVar l a).1 = n at *
  generalize (readVar l a).2.1 = f at *
  generalize (readVar l a).2.2 = ok at *
  cases ok with
  | false => simp [exB, impl_ReadShort.m, impl_ReadShort.b, List.range_succ, h1]
  | true =>
    by_cases c1 : n ≤ 20000
    rotate_left
    · have c1' : 20000 < (n : Int) := by omega
      simp [exB, impl_ReadShort.m, impl_ReadShort.b, List.range_succ, h1, c1, c1']
    have c1' : ¬ 20000 < (n : Int) := by omega
    have e1 : IntKind.i64.wrap ((l.length : Int) - f) = (l.length : Int) - f := wrap_i64 (by omega) (by omega)
    by_cases c2 : n + f ≤ l.length
    rotate_left
    · have c2' : (l.length : Int) - f < n := by omega
      simp [exB, impl_ReadShort.m, impl_ReadShort.b, List.range_succ, h1, c1, c1', c2, c2', e1]
    have c2' : ¬ (l.length : Int) - f < n := by omega
    have e2 : IntKind.i64.wrap ((f : Int) + n) = (f : Int) + n := wrap_i64 (by omega) (by omega)
    have e3 : ((f : Int) + n).toNat = f + n := by omega
    have e4 : (0 : Int) ≤ (f : Int) + n := by omega
    have e5 : f ≤ f + n ∧ f + n ≤ l.length := by omega
    obtain ⟨w, hw⟩ : ∃ w, (l.drop f).take n = w := ⟨_, rfl⟩
    have w1 : (l.take (f + n)).drop f = w := by rw [← hw, List.drop_take]; congr 1; omega
    have w2 : (l.drop f).take (f + n - f) = w := by rw [← hw]; congr 1; omega
    simp [exB, impl_ReadShort.m, impl_ReadShort.b, List.range_succ, h1, c1, c1', c2, c2', e1, e2, e3, e4, e5, hw, w1, w2]
end Mx

/-
  What Unsealed answers.
-/
namespace Mx
open Go
variable {M : Nat → Option Body}
def fourN (a b c d : UInt8) : Nat := a.toNat * 16777216 + b.toNat * 65536 + c.toNat * 256 + d.toNat
theorem byteOf_eq (x : Int) (b : UInt8) : byteOf x = b ↔ x % 256 = b.toNat := by
  have hb := b.toNat_lt
  unfold byteOf
  rw [← UInt8.toNat_inj]
  rw [UInt8.toNat_ofNat']
  omega
theorem four_eq {x : Int} (h : in32 x) (a b c d : UInt8) : four x = [a, b, c, d] ↔ x = fourN a b c d := by
  have ha := a.toNat_lt
  have hb := b.toNat_lt
  have hc := c.toNat_lt
  have hd := d.toNat_lt
  obtain ⟨h1, h2⟩ := h
  simp only [four, List.cons.injEq, and_true, byteOf_eq, fourN]
  omega
theorem or_two (n k d : Nat) (h : n < 2 ^ k) : d * 2 ^ k ||| n = d * 2 ^ k + n := by
  have := Nat.two_pow_add_eq_or_of_lt (i := k) (b := n) h d
  rw [Nat.mul_comm d, ← this]
theorem or_m {m k d n : Nat} (hm : m = 2 ^ k) (h : n < m) : d * m ||| n = d * m + n := by subst hm; exact or_two n k d h
theorem z_two (a b : Nat) : a * 16777216 + b * 65536 = (a * 256 + b) * 65536 := by rw [Nat.add_mul, Nat.mul_assoc]
theorem z_three (a b c : Nat) : (a * 256 + b) * 65536 + c * 256 = (a * 65536 + b * 256 + c) * 256 := by simp only [Nat.add_mul, Nat.mul_assoc]
theorem fourAt_run (l : List UInt8) (n n1 n2 n3 : Nat) (a b c d : Int) (i0 : n < l.length) (i1 : n1 < l.length) (i2 : n2 < l.length) (i3 : n3 < l.length) (ha : (l[n].toNat : Int) = a) (hb : (l[n1].toNat : Int) = b) (hc : (l[n2].toNat : Int) = c) (hd : (l[n3].toNat : Int) = d)
    (w11 : IntKind.i64.wrap ((n : Int) + 1) = (n1 : Int)) (w12 : IntKind.i64.wrap ((n : Int) + 2) = (n2 : Int)) (w13 : IntKind.i64.wrap ((n : Int) + 3) = (n3 : Int)) (va : IntKind.i64.wrap a = a) (vb : IntKind.i64.wrap b = b) (vc : IntKind.i64.wrap c = c) (vd : IntKind.i64.wrap d = d)
    (y1 y2 y3 z1 z2 z3 : Int) (sh1 : shiftBin .shl .i64 a 24 = some (.int .i64 y1)) (sh2 : shiftBin .shl .i64 b 16 = some (.int .i64 y2)) (sh3 : shiftBin .shl .i64 c 8 = some (.int .i64 y3))
    (o1 : orI .i64 y1 y2 = z1) (o2 : orI .i64 z1 y3 = z2) (o3 : orI .i64 z2 d = z3) :
    exB (run M) 0 impl_fourAt.m [.c (S l), .c (I n)] [] = some (.c (I z3), []) := by
  simp [exB, impl_fourAt.m, impl_fourAt.b, List.range_succ, bs_get, i0, i1, i2, i3, ha, hb, hc, hd, w11, w12, w13, va, vb, vc, vd, sh1, sh2, sh3, o1, o2, o3, -shiftBin]
theorem impl_fourAt.says' (h : impl_fourAt.k M) (l : List UInt8) (n n1 n2 n3 : Nat) (m1 : n1 = n + 1) (m2 : n2 = n + 2) (m3 : n3 = n + 3) (i0 : n < l.length) (i1 : n1 < l.length) (i2 : n2 < l.length) (i3 : n3 < l.length) (hl : l.length ≤ 4611686018427387904) :
    run M 236 [.c (S l), .c (I n)] [] = some (.c (I (fourN l[n] l[n1] l[n2] l[n3])), []) := by
  refine run_code (b := impl_fourAt.m) h ⟨0, ?_⟩
  obtain ⟨a, ha⟩ : ∃ b, l[n] = b := ⟨_, rfl⟩
  obtain ⟨b, hb⟩ : ∃ b, l[n1] = b := ⟨_, rfl⟩
  obtain ⟨c, hc⟩ : ∃ b, l[n2] = b := ⟨_, rfl⟩
  obtain ⟨d, hd⟩ : ∃ b, l[n3] = b := ⟨_, rfl⟩
  rw [ha, hb, hc, hd]
  have ha' := a.toNat_lt
  have hb' := b.toNat_lt
  have hc' := c.toNat_lt
  have hd' := d.toNat_lt
  have w11 : IntKind.i64.wrap ((n : Int) + 1) = (n1 : Int) := by rw [wrap_i64 (by omega) (by omega)]; omega
  have w12 : IntKind.i64.wrap ((n : Int) + 2) = (n2 : Int) := by rw [wrap_i64 (by omega) (by omega)]; omega
  have w13 : IntKind.i64.wrap ((n : Int) + 3) = (n3 : Int) := by rw [wrap_i64 (by omega) (by omega)]; omega
  clear m1 m2 m3
  have v : ∀ x : UInt8, IntKind.i64.wrap (x.toNat : Int) = x.toNat := fun x => wrap_i64 (by omega) (by have := x.toNat_lt; omega)
  have s1 : IntKind.i64.wrap ((a.toNat : Int) * 16777216) = (a.toNat : Int) * 16777216 := wrap_i64 (by omega) (by omega)
  have s2 : IntKind.i64.wrap ((b.toNat : Int) * 65536) = (b.toNat : Int) * 65536 := wrap_i64 (by omega) (by omega)
  have s3 : IntKind.i64.wrap ((c.toNat : Int) * 256) = (c.toNat : Int) * 256 := wrap_i64 (by omega) (by omega)
  obtain ⟨z1, hz1⟩ : ∃ z : Nat, z = a.toNat * 16777216 + b.toNat * 65536 := ⟨_, rfl⟩
  obtain ⟨z2, hz2⟩ : ∃ z : Nat, z = z1 + c.toNat * 256 := ⟨_, rfl⟩
  obtain ⟨z3, hz3⟩ : ∃ z : Nat, z = z2 + d.toNat := ⟨_, rfl⟩
  have o1 : orI .i64 ((a.toNat : Int) * 16777216) ((b.toNat : Int) * 65536) = (z1 : Int) := by
    have := or_i64 (a.toNat * 16777216) (b.toNat * 65536) (by omega) (by omega)
    rw [or_m (m := 16777216) (k := 24) (by simp) (by omega), ← hz1] at this
    rw [show (a.toNat : Int) * 16777216 = ((a.toNat * 16777216 : Nat) : Int) by omega, show (b.toNat : Int) * 65536 = ((b.toNat * 65536 : Nat) : Int) by omega]
    exact this
  have o2 : orI .i64 (z1 : Int) ((c.toNat : Int) * 256) = (z2 : Int) := by
    have := or_i64 z1 (c.toNat * 256) (by omega) (by omega)
    have e : z1 = (a.toNat * 256 + b.toNat) * 65536 := by rw [hz1]; exact z_two _ _
    have e2 := or_m (m := 65536) (k := 16) (d := a.toNat * 256 + b.toNat) (n := c.toNat * 256) (by simp) (by omega)
    rw [← e, ← hz2] at e2
    rw [e2] at this
    rw [show (c.toNat : Int) * 256 = ((c.toNat * 256 : Nat) : Int) by omega]
    exact this
  have o3 : orI .i64 (z2 : Int) (d.toNat : Int) = (z3 : Int) := by
    have := or_i64 z2 d.toNat (by omega) (by omega)
    have e : z2 = (a.toNat * 65536 + b.toNat * 256 + c.toNat) * 256 := by rw [hz2, hz1, z_two]; exact z_three _ _ _
    have e2 := or_m (m := 256) (k := 8) (d := a.toNat * 65536 + b.toNat * 256 + c.toNat) (n := d.toNat) (by simp) (by omega)
    rw [← e, ← hz3] at e2
    rw [e2] at this
    exact this
  have hz : fourN a b c d = z3 := by unfold fourN; omega
  rw [hz]
  clear hz hz3 hz2 hz1
  have sh1 : shiftBin .shl .i64 (a.toNat : Int) 24 = some (.int .i64 ((a.toNat : Int) * 16777216)) := by simp [IntKind.bits, s1]
  have sh2 : shiftBin .shl .i64 (b.toNat : Int) 16 = some (.int .i64 ((b.toNat : Int) * 65536)) := by simp [IntKind.bits, s2]
  have sh3 : shiftBin .shl .i64 (c.toNat : Int) 8 = some (.int .i64 ((c.toNat : Int) * 256)) := by simp [IntKind.bits, s3]
  clear s1 s2 s3
  obtain ⟨y1, hy1⟩ : ∃ y : Int, y = (a.toNat : Int) * 16777216 := ⟨_, rfl⟩
  obtain ⟨y2, hy2⟩ : ∃ y : Int, y = (b.toNat : Int) * 65536 := ⟨_, rfl⟩
  obtain ⟨y3, hy3⟩ : ∃ y : Int, y = (c.toNat : Int) * 256 := ⟨_, rfl⟩
  rw [← hy1] at sh1 o1
  rw [← hy2] at sh2 o1
  rw [← hy3] at sh3 o2
  clear hy1 hy2 hy3
  exact fourAt_run l n n1 n2 n3 a.toNat b.toNat c.toNat d.toNat i0 i1 i2 i3 (by rw [ha]) (by rw [hb]) (by rw [hc]) (by rw [hd]) w11 w12 w13 (v a) (v b) (v c) (v d) y1 y2 y3 z1 z2 z3 sh1 sh2 sh3 o1 o2 o3

theorem impl_fourAt.says (h : impl_fourAt.k M) (l : List UInt8) (n : Nat) (hn : n + 4 ≤ l.length) (hl : l.length ≤ 4611686018427387904) :
    run M 236 [.c (S l), .c (I n)] [] = some (.c (I (fourN l[n] l[n + 1] l[n + 2] l[n + 3])), []) :=
  impl_fourAt.says' h l n (n + 1) (n + 2) (n + 3) rfl rfl rfl (by omega) (by omega) (by omega) (by omega) hl

/-- the text ahead of its sum -/
def unsealed (l : List UInt8) : List UInt8 × Bool :=
  if 4 ≤ l.length ∧ l.length ≤ 20004 ∧ l.drop (l.length - 4) = four (sumOf (l.take (l.length - 4))) then (l.take (l.length - 4), true) else ([], false)
theorem spec_Unsealed.says (h : spec_Unsealed.k M) (l : List UInt8) (hl : l.length ≤ 4611686018427387904) : run M 167 [.c (S l)] [] = some (.tup [.c (S (unsealed l).1), .c (.bool (unsealed l).2)], []) := by
  have e1 : IntKind.i64.wrap ((l.length : Int) - 4) = (l.length : Int) - 4 := wrap_i64 (by omega) (by omega)
  refine run_code (b := spec_Unsealed.m) h.1 ⟨0, ?_⟩
  by_cases c1 : 4 ≤ l.length
  rotate_left
  · have d1 : (l.length : Int) - 4 < 0 := by omega
    simp [exB, spec_Unsealed.m, spec_Unsealed.b, List.range_succ, e1, d1, unsealed, c1]
  have d1 : ¬ (l.length : Int) - 4 < 0 := by omega
  by_cases c2 : l.length ≤ 20004
  rotate_left
  · have d2 : 20000 < (l.length : Int) - 4 := by omega
    simp [exB, spec_Unsealed.m, spec_Unsealed.b, List.range_succ, e1, d1, d2, unsealed, c1, c2]
  have d2 : ¬ 20000 < (l.length : Int) - 4 := by omega
  have h1 := spec_SumOf.says h.2.1 (l.take (l.length - 4)) (by simp; omega)
  have h2 := spec_l02Four.says h.2.2 (sumOf (l.take (l.length - 4)))
  have e2 : ((l.length : Int) - 4).toNat = l.length - 4 := by omega
  have e3 : (0 : Int) ≤ (l.length : Int) - 4 := by omega
  have e3' : (4 : Int) ≤ (l.length : Int) := by omega
  have e4 : l.length - 4 ≤ l.length := by omega
  by_cases c3 : l.drop (l.length - 4) = four (sumOf (l.take (l.length - 4)))
  · simp [exB, spec_Unsealed.m, spec_Unsealed.b, List.range_succ, e1, d1, d2, e2, e3, e3', e4, h1, h2, unsealed, c1, c2, c3]
  · simp [exB, spec_Unsealed.m, spec_Unsealed.b, List.range_succ, e1, d1, d2, e2, e3, e3', e4, h1, h2, unsealed, c1, c2, c3]
theorem drop_four (l : List UInt8) (n : Nat) (h : n + 4 = l.length) : l.drop n = [l[n], l[n + 1], l[n + 2], l[n + 3]] := by
  apply List.ext_getElem
  · simp; omega
  · intro i h1 h2
    simp at h2
    have : i = 0 ∨ i = 1 ∨ i = 2 ∨ i = 3 := by omega
    rcases this with rfl | rfl | rfl | rfl <;> simp
theorem impl_Unsealed.says (h : impl_Unsealed.k M) (l : List UInt8) (hl : l.length ≤ 4611686018427387904) : run M 168 [.c (S l)] [] = some (.tup [.c (S (unsealed l).1), .c (.bool (unsealed l).2)], []) := by
  obtain ⟨h0, k1, k2, k3⟩ := h
  have e1 : IntKind.i64.wrap ((l.length : Int) - 4) = (l.length : Int) - 4 := wrap_i64 (by omega) (by omega)
  have hw := impl_within.says k1 ((l.length : Int) - 4) 0 20000
  refine run_code (b := impl_Unsealed.m) h0 ⟨0, ?_⟩
  by_cases c : 4 ≤ l.length ∧ l.length ≤ 20004
  rotate_left
  · have hb : (decide ((0 : Int) ≤ (l.length : Int) - 4) && decide ((l.length : Int) - 4 ≤ 20000)) = false := by
      rw [Bool.eq_false_iff]; intro hh; simp only [Bool.and_eq_true, decide_eq_true_eq] at hh; omega
    rw [hb] at hw
    have : unsealed l = ([], false) := by unfold unsealed; rw [if_neg (fun q => c ⟨q.1, q.2.1⟩)]
    simp [exB, impl_Unsealed.m, impl_Unsealed.b, List.range_succ, e1, hw, this]
  obtain ⟨c1, c2⟩ := c
  have hb : (decide ((0 : Int) ≤ (l.length : Int) - 4) && decide ((l.length : Int) - 4 ≤ 20000)) = true := by
    simp only [Bool.and_eq_true, decide_eq_true_eq]; omega
  rw [hb] at hw
  have h1 := impl_SumOf.says k2 (l.take (l.length - 4)) (by simp; omega)
  have hin := sumOf_in (l.take (l.length - 4))
  have h2 := impl_fourAt.says k3 l (l.length - 4) (by omega) hl
  rw [show ((l.length - 4 : Nat) : Int) = (l.length : Int) - 4 by omega] at h2
  have hd := drop_four l (l.length - 4) (by omega)
  have hq := four_eq hin (l[l.length - 4]'(by omega)) (l[l.length - 4 + 1]'(by omega)) (l[l.length - 4 + 2]'(by omega)) (l[l.length - 4 + 3]'(by omega))
  rw [← hd] at hq
  have e2 : ((l.length : Int) - 4).toNat = l.length - 4 := by omega
  have e3 : (0 : Int) ≤ (l.length : Int) - 4 := by omega
  have e3' : (4 : Int) ≤ (l.length : Int) := by omega
  have e4 : l.length - 4 ≤ l.length := by omega
  have e5 : IntKind.i64.wrap (sumOf (l.take (l.length - 4))) = sumOf (l.take (l.length - 4)) := wrap_i64 (by have := hin.1; omega) (by have := hin.2; omega)
  unfold unsealed
  generalize fourN (l[l.length - 4]'(by omega)) (l[l.length - 4 + 1]'(by omega)) (l[l.length - 4 + 2]'(by omega)) (l[l.length - 4 + 3]'(by omega)) = z at h2 hq
  by_cases c3 : l.drop (l.length - 4) = four (sumOf (l.take (l.length - 4)))
  · have c4 := hq.1 c3.symm
    have e6 : IntKind.i64.wrap (z : Int) = z := by rw [c4] at e5; exact e5
    rw [if_pos ⟨c1, c2, c3⟩]
    simp [exB, impl_Unsealed.m, impl_Unsealed.b, List.range_succ, e1, hw, e2, e3, e3', e4, h1, h2, e5, c4, e6]
  · have c4 : ¬ sumOf (l.take (l.length - 4)) = z := fun q => c3 (hq.2 q).symm
    rw [if_neg (fun q => c3 q.2.2)]
    simp [exB, impl_Unsealed.m, impl_Unsealed.b, List.range_succ, e1, hw, e2, e3, e3', e4, h1, h2, e5, c4]
end Mx

/-
  Records: what is read at a place, and all of them.
-/
namespace Mx
open Go
variable {M : Nat → Option Body}
theorem rvGo_text (l : List UInt8) (a : Nat) : ∀ d k n r, rvGo l a d k n = some r → r.2.2 = true → a < r.2.1 ∧ r.2.1 ≤ l.length ∧ varT r.1 = (l.drop a).take (r.2.1 - a)
  | 0, k, n, r, h => by simp [rvGo] at h
  | d + 1, k, n, r, hr => by
    intro hq
    rw [rvGo] at hr
    by_cases h : a + k < l.length
    · rw [dif_pos h] at hr
      split at hr
      · simp only [Option.some.injEq] at hr
        subst hr
        split at hq
        · rename_i hc
          rw [if_pos hc]
          refine ⟨by simp only; omega, by simp only; omega, ?_⟩
          simp only
          rw [hc.2]; congr 1; omega
        · cases hq
      · exact rvGo_text l a d (k + 1) _ r hr hq
    · rw [dif_neg h] at hr; cases hr
theorem readShort_ok (l : List UInt8) (a : Int) (h : (readShort l a).2.2 = true) : ∃ m : Nat, a = m ∧ m < (readShort l a).2.1 ∧ (readShort l a).2.1 ≤ l.length ∧ (l.take (readShort l a).2.1).drop m = shortT (readShort l a).1 ∧ (readShort l a).1.length ≤ 20000 := by
  unfold readShort at h ⊢
  split at h
  · rename_i hc
    rw [if_pos hc]
    obtain ⟨c1, c2, c3⟩ := hc
    simp only
    unfold readVar at c1 c2 c3 ⊢
    split at c1
    · rename_i hr
      rw [if_pos hr] at c2 c3 ⊢
      obtain ⟨m, rfl⟩ := Int.eq_ofNat_of_zero_le hr.1
      simp only [Int.toNat_natCast] at c1 c2 c3 ⊢
      cases hg : rvGo l m 5 0 0 with
      | none => rw [hg] at c1; cases c1
      | some r =>
        rw [hg] at c1 c2 c3 
        simp only [Option.getD_some] at c1 c2 c3 ⊢
        obtain ⟨q1, q2, q3⟩ := rvGo_text l m 5 0 0 r hg c1
        refine ⟨m, rfl, by omega, by omega, ?_, by simp; omega⟩
        have hlen : ((l.drop r.2.1).take r.1).length = r.1 := by simp; omega
        unfold shortT
        rw [hlen, q3, List.drop_take]
        have e1 : r.2.1 + r.1 - m = (r.2.1 - m) + r.1 := by omega
        rw [e1, List.take_add, List.drop_drop]
        congr 3; omega
    · cases c1
  · cases h

/-- the text of the record at a place, and the place behind it -/
def recAt (l : List UInt8) (a : Int) : List UInt8 × Nat × Bool :=
  if (readShort l a).2.2 = true ∧ (1 ≤ (readShort l a).1.length ∧ (readShort l a).1.length ≤ 6000) ∧ (readShort l a).2.1 + 4 ≤ l.length ∧ (l.drop (readShort l a).2.1).take 4 = four (sumOf (shortT (readShort l a).1)) then ((readShort l a).1, (readShort l a).2.1 + 4, true) else ([], 0, false)
theorem take_four (l : List UInt8) (m e : Nat) (h : m ≤ e) (he : e ≤ l.length) : (l.take (e + 4)).drop m = (l.take e).drop m ++ (l.drop e).take 4 := by
  rw [List.take_add, List.drop_append_of_le_length (by simp; omega)]
theorem spec_l12Read.says (h : spec_l12Read.k M) (l : List UInt8) (hl : l.length ≤ 1048576) (a : Int) :
    run M 104 [.c (S l), .c (I a)] [] = some (.tup [.c (S (recAt l a).1), .c (I (recAt l a).2.1), .c (.bool (recAt l a).2.2)], []) := by
  have h1 := spec_ReadShort.says h.2.2 l (by omega) a
  have hok := readShort_ok l a
  refine run_code (b := spec_l12Read.m) h.1 ⟨0, ?_⟩
  unfold recAt
  generalize (readShort l a).1 = t at *
  generalize (readShort l a).2.1 = e at *
  generalize (readShort l a).2.2 = ok at *
  cases ok with
  | false => simp [exB, spec_l12Read.m, spec_l12Read.b, List.range_succ, h1]
  | true =>
    obtain ⟨m, rfl, p1, p2, p3, p4⟩ := hok rfl
    have h2 := spec_RecordText.says h.2.1 t (by omega)
    have e1 : IntKind.i64.wrap ((l.length : Int) - 4) = (l.length : Int) - 4 := wrap_i64 (by omega) (by omega)
    by_cases c1 : e + 4 ≤ l.length
    rotate_left
    · have c1' : (l.length : Int) - 4 < e := by omega
      simp [exB, spec_l12Read.m, spec_l12Read.b, List.range_succ, h1, e1, c1, c1']
    have c1' : ¬ (l.length : Int) - 4 < e := by omega
    by_cases c2 : 1 ≤ t.length ∧ t.length ≤ 6000
    rotate_left
    · have hr : recordText t = ([], false) := by unfold recordText; rw [if_neg c2]
      rw [hr] at h2
      simp [exB, spec_l12Read.m, spec_l12Read.b, List.range_succ, h1, e1, c1, c1', c2, h2]
    have hv := varT_len (n := t.length) (by omega)
    have hr : recordText t = (shortT t ++ four (sumOf (shortT t)), true) := by
      unfold recordText sealed
      rw [if_pos c2, if_neg (by simp [shortT]; omega)]
    rw [hr] at h2
    have e2 : IntKind.i64.wrap ((e : Int) + 4) = (e : Int) + 4 := wrap_i64 (by omega) (by omega)
    have e3 : ((e : Int) + 4).toNat = e + 4 := by omega
    have e4 : (0 : Int) ≤ (e : Int) + 4 := by omega
    have e5 : m ≤ e + 4 := by omega
    have hx := take_four l m e (by omega) p2
    rw [p3] at hx
    have hx' : List.take (e + 4 - m) (List.drop m l) = shortT t ++ (l.drop e).take 4 := by rw [← hx, List.drop_take]
    have e6 : IntKind.i64.wrap ((e : Int) + 4) = ((e + 4 : Nat) : Int) := by rw [e2]; omega
    generalize (l.drop e).take 4 = w at *
    generalize four (sumOf (shortT t)) = f at *
    generalize shortT t = s at *
    by_cases c3 : w = f
    · subst c3
      simp [exB, spec_l12Read.m, spec_l12Read.b, List.range_succ, h1, e1, c1, c1', c2, h2, e2, e3, e4, e5, hx, hx']
    · have c4 : ¬ f = w := fun q => c3 q.symm
      simp [exB, spec_l12Read.m, spec_l12Read.b, List.range_succ, h1, e1, c1, c1', c2, h2, e2, e3, e4, e5, hx, hx', c3, c4]
theorem impl_recordAt.says (h : impl_recordAt.k M) (l : List UInt8) (hl : l.length ≤ 1048576) (a : Int) :
    run M 105 [.c (S l), .c (I a)] [] = some (.tup [.c (S (recAt l a).1), .c (I (recAt l a).2.1), .c (.bool (recAt l a).2.2)], []) := by
  obtain ⟨h0, k1, k2, k3⟩ := h
  have h1 := impl_ReadShort.says k3 l (by omega) a
  have hok := readShort_ok l a
  refine run_code (b := impl_recordAt.m) h0 ⟨0, ?_⟩
  unfold recAt
  generalize (readShort l a).1 = t at *
  generalize (readShort l a).2.1 = e at *
  generalize (readShort l a).2.2 = ok at *
  cases ok with
  | false => simp [exB, impl_recordAt.m, impl_recordAt.b, List.range_succ, h1]
  | true =>
    obtain ⟨m, rfl, p1, p2, p3, p4⟩ := hok rfl
    have hw := impl_within.says k1 t.length 1 6000
    by_cases c2 : 1 ≤ t.length ∧ t.length ≤ 6000
    rotate_left
    · have hb : (decide ((1 : Int) ≤ t.length) && decide ((t.length : Int) ≤ 6000)) = false := by
        rw [Bool.eq_false_iff]; intro hh; simp only [Bool.and_eq_true, decide_eq_true_eq] at hh; omega
      rw [hb] at hw
      simp [exB, impl_recordAt.m, impl_recordAt.b, List.range_succ, h1, hw, c2]
    have hb : (decide ((1 : Int) ≤ t.length) && decide ((t.length : Int) ≤ 6000)) = true := by
      simp only [Bool.and_eq_true, decide_eq_true_eq]; omega
    rw [hb] at hw
    have e1 : IntKind.i64.wrap ((l.length : Int) - e) = (l.length : Int) - e := wrap_i64 (by omega) (by omega)
    by_cases c1 : e + 4 ≤ l.length
    rotate_left
    · have c1' : (l.length : Int) - e < 4 := by omega
      simp [exB, impl_recordAt.m, impl_recordAt.b, List.range_succ, h1, hw, c2, e1, c1, c1']
    have c1' : ¬ (l.length : Int) - e < 4 := by omega
    have hv := varT_len (n := t.length) (by omega)
    have hsl : (shortT t).length ≤ 6010 := by simp [shortT]; omega
    have e2 : IntKind.i64.wrap ((e : Int) + 4) = (e : Int) + 4 := wrap_i64 (by omega) (by omega)
    have e3 : ((e : Int) + 4).toNat = e + 4 := by omega
    have e4 : (0 : Int) ≤ (e : Int) + 4 := by omega
    have e5 : m ≤ e + 4 := by omega
    have hx := take_four l m e (by omega) p2
    rw [p3] at hx
    have hx' : List.take (e + 4 - m) (List.drop m l) = shortT t ++ (l.drop e).take 4 := by rw [← hx, List.drop_take]
    have hw4 : ((l.drop e).take 4).length = 4 := by simp; omega
    have h2 := impl_Unsealed.says k2 (shortT t ++ (l.drop e).take 4) (by simp; omega)
    have hu : (unsealed (shortT t ++ (l.drop e).take 4)).2 = decide ((l.drop e).take 4 = four (sumOf (shortT t))) := by
      have q1 : (shortT t ++ (l.drop e).take 4).length - 4 = (shortT t).length := by rw [List.length_append, hw4]; omega
      unfold unsealed
      rw [q1, List.take_left' rfl, List.drop_left' rfl]
      by_cases c : (l.drop e).take 4 = four (sumOf (shortT t))
      · rw [if_pos ⟨by rw [List.length_append, hw4]; omega, by rw [List.length_append, hw4]; omega, c⟩]; simp [c]
      · rw [if_neg (fun q => c q.2.2)]; simp [c]
    rw [hu] at h2
    generalize (unsealed (shortT t ++ (l.drop e).take 4)).1 = u at h2
    clear hu hw4
    generalize (l.drop e).take 4 = w at *
    generalize four (sumOf (shortT t)) = f at *
    generalize shortT t = s at *
    by_cases c3 : w = f
    · subst c3
      simp at h2
      simp [exB, impl_recordAt.m, impl_recordAt.b, List.range_succ, h1, hw, e1, c1, c1', c2, h2, e2, e3, e4, e5, hx, hx']
    · simp [c3] at h2
      simp [exB, impl_recordAt.m, impl_recordAt.b, List.range_succ, h1, hw, e1, c1, c1', c2, h2, e2, e3, e4, e5, hx, hx', c3]
end Mx

/-
  Small codes: (*impl.scan).num, (*impl.scan).many, (*impl.scan).short, (*impl.scan).stamp, (*impl.scan).nums, (*impl.scan).mail, (*impl.scan).box, spec.l05Var, spec.l05Short, spec.l10Ints, spec.ReadMail, spec.ReadBox.
-/
namespace Mx
open Go
def impl_scan_num.b : C := .seq (.reg [⟨some 2, .mv (.k (.int .i64 0)), none⟩] [0] [0])
  (.seq (.regd [⟨some 7, .mv (.t 0), none⟩,
    ⟨some 8, .nilc (.t 7), none⟩,
    ⟨some 9, .faddr 0 (.t 8), none⟩,
    ⟨some 10, .load false 1 (.t 9), none⟩,
    ⟨some 11, .mv (.t 0), none⟩,
    ⟨some 12, .nilc (.t 11), none⟩,
    ⟨some 13, .faddr 1 (.t 12), none⟩,
    ⟨some 14, .load false 1 (.t 13), none⟩,
    ⟨some 15, .call 231 [.t 10, .t 14] [] [], none⟩,
    ⟨some 6, .mv (.t 15), none⟩,
    ⟨some 16, .ext 0 (.t 6), none⟩,
    ⟨some 17, .ext 1 (.t 6), none⟩,
    ⟨some 18, .ext 2 (.t 6), none⟩,
    ⟨some 3, .mv (.t 16), none⟩,
    ⟨some 4, .mv (.t 17), none⟩,
    ⟨some 5, .mv (.t 18), none⟩] [[], [0], [0, 1], [0, 1, 2], [], [4], [4, 5], [4, 5, 6], List.range 8, List.range 9, List.range 10, List.range 10, List.range 10, List.range 11, List.range 12 ++ [13], List.range 15] [0, 3, 4, 5] [0])
  (.seq (.seq (.reg [⟨some 19, .mv (.t 0), none⟩,
    ⟨some 20, .nilc (.t 19), none⟩,
    ⟨some 21, .faddr 2 (.t 20), none⟩,
    ⟨some 22, .load false 1 (.t 21), none⟩,
    ⟨some 23, .mv (.t 22), none⟩,
    ⟨some 24, .mv (.t 5), some (23, false)⟩,
    ⟨some 25, .not (.t 24), some (23, false)⟩,
    ⟨some 26, .pick (.t 23) (.k (.bool true)) (.t 25), none⟩] [0, 3, 4, 26] [0])
  (.cond (.t 26) (.seq (.reg [⟨some 27, .mv (.t 0), none⟩,
    ⟨some 28, .nilc (.t 27), none⟩,
    ⟨some 29, .faddr 2 (.t 28), none⟩,
    ⟨none, .store 1 (.t 29) (.k (.bool true)), none⟩] [] [0])
  (.seq (.reg [⟨some 2, .mv (.k (.int .i64 0)), none⟩] [2] [0])
  (.ret))) (.skip)))
  (.seq (.reg [⟨some 30, .mv (.t 0), none⟩,
    ⟨some 31, .mv (.t 4), none⟩,
    ⟨some 32, .nilc (.t 30), none⟩,
    ⟨some 33, .faddr 1 (.t 32), none⟩,
    ⟨none, .store 1 (.t 33) (.t 31), none⟩] [3] [0])
  (.seq (.reg [⟨some 34, .mv (.t 3), none⟩,
    ⟨some 2, .mv (.t 34), none⟩] [2] [0])
  (.ret)))))
def impl_scan_num.m : Fn := { np := 1, body := impl_scan_num.b, res := [.tmp 2] }
def impl_scan_num.k (M : Nat → Option Body) : Prop := M 152 = some (.code impl_scan_num.m) ∧ impl_ReadVar.k M
def impl_scan_many.b : C := .seq (.reg [⟨some 4, .mv (.k (.int .i64 0)), none⟩] [0, 1] [0])
  (.seq (.reg [⟨some 6, .mv (.t 0), none⟩,
    ⟨some 7, .call 152 [.t 6] [0] [], none⟩,
    ⟨some 5, .mv (.t 7), none⟩] [0, 1, 5] [0])
  (.seq (.seq (.reg [⟨some 8, .mv (.t 5), none⟩,
    ⟨some 9, .mv (.t 1), none⟩,
    ⟨some 10, .bin .gtr (.t 8) (.t 9), none⟩] [0, 5, 10] [0])
  (.cond (.t 10) (.reg [⟨some 11, .mv (.t 0), none⟩,
    ⟨some 12, .nilc (.t 11), none⟩,
    ⟨some 13, .faddr 2 (.t 12), none⟩,
    ⟨none, .store 1 (.t 13) (.k (.bool true)), none⟩] [0, 5] [0]) (.skip)))
  (.seq (.seq (.reg [⟨some 14, .mv (.t 0), none⟩,
    ⟨some 15, .nilc (.t 14), none⟩,
    ⟨some 16, .faddr 2 (.t 15), none⟩,
    ⟨some 17, .load false 1 (.t 16), none⟩] [5, 17] [0])
  (.cond (.t 17) (.seq (.reg [⟨some 4, .mv (.k (.int .i64 0)), none⟩] [4] [0])
  (.ret)) (.skip)))
  (.seq (.reg [⟨some 18, .mv (.t 5), none⟩,
    ⟨some 4, .mv (.t 18), none⟩] [4] [0])
  (.ret)))))
def impl_scan_many.m : Fn := { np := 2, body := impl_scan_many.b, res := [.tmp 4] }
def impl_scan_many.k (M : Nat → Option Body) : Prop := M 169 = some (.code impl_scan_many.m) ∧ impl_scan_num.k M
def impl_scan_short.b : C := .seq (.reg [⟨some 2, .mv (.k (.str ⟨#[]⟩)), none⟩] [0] [0])
  (.seq (.regd [⟨some 7, .mv (.t 0), none⟩,
    ⟨some 8, .nilc (.t 7), none⟩,
    ⟨some 9, .faddr 0 (.t 8), none⟩,
    ⟨some 10, .load false 1 (.t 9), none⟩,
    ⟨some 11, .mv (.t 0), none⟩,
    ⟨some 12, .nilc (.t 11), none⟩,
    ⟨some 13, .faddr 1 (.t 12), none⟩,
    ⟨some 14, .load false 1 (.t 13), none⟩,
    ⟨some 15, .call 207 [.t 10, .t 14] [] [], none⟩,
    ⟨some 6, .mv (.t 15), none⟩,
    ⟨some 16, .ext 0 (.t 6), none⟩,
    ⟨some 17, .ext 1 (.t 6), none⟩,
    ⟨some 18, .ext 2 (.t 6), none⟩,
    ⟨some 3, .mv (.t 16), none⟩,
    ⟨some 4, .mv (.t 17), none⟩,
    ⟨some 5, .mv (.t 18), none⟩] [[], [0], [0, 1], [0, 1, 2], [], [4], [4, 5], [4, 5, 6], List.range 8, List.range 9, List.range 10, List.range 10, List.range 10, List.range 11, List.range 12 ++ [13], List.range 15] [0, 3, 4, 5] [0])
  (.seq (.seq (.reg [⟨some 19, .mv (.t 0), none⟩,
    ⟨some 20, .nilc (.t 19), none⟩,
    ⟨some 21, .faddr 2 (.t 20), none⟩,
    ⟨some 22, .load false 1 (.t 21), none⟩,
    ⟨some 23, .mv (.t 22), none⟩,
    ⟨some 24, .mv (.t 5), some (23, false)⟩,
    ⟨some 25, .not (.t 24), some (23, false)⟩,
    ⟨some 26, .pick (.t 23) (.k (.bool true)) (.t 25), none⟩] [0, 3, 4, 26] [0])
  (.cond (.t 26) (.seq (.reg [⟨some 27, .mv (.t 0), none⟩,
    ⟨some 28, .nilc (.t 27), none⟩,
    ⟨some 29, .faddr 2 (.t 28), none⟩,
    ⟨none, .store 1 (.t 29) (.k (.bool true)), none⟩] [] [0])
  (.seq (.reg [⟨some 2, .mv (.k (.str ⟨#[]⟩)), none⟩] [2] [0])
  (.ret))) (.skip)))
  (.seq (.reg [⟨some 30, .mv (.t 0), none⟩,
    ⟨some 31, .mv (.t 4), none⟩,
    ⟨some 32, .nilc (.t 30), none⟩,
    ⟨some 33, .faddr 1 (.t 32), none⟩,
    ⟨none, .store 1 (.t 33) (.t 31), none⟩] [3] [0])
  (.seq (.reg [⟨some 34, .mv (.t 3), none⟩,
    ⟨some 2, .mv (.t 34), none⟩] [2] [0])
  (.ret)))))
def impl_scan_short.m : Fn := { np := 1, body := impl_scan_short.b, res := [.tmp 2] }
def impl_scan_short.k (M : Nat → Option Body) : Prop := M 153 = some (.code impl_scan_short.m) ∧ impl_ReadShort.k M
def impl_scan_stamp.b : C := .seq (.reg [⟨some 2, .alloc [.int .i64 0, .int .i64 0], none⟩] [0, 2] [0, 2])
  (.seq (.reg [⟨some 4, .mv (.t 0), none⟩,
    ⟨some 5, .call 152 [.t 4] [0] [], none⟩,
    ⟨some 6, .build [.int .i64 0, .int .i64 0] [(0, 1, .t 5)], none⟩,
    ⟨some 3, .alloc [.int .i64 0, .int .i64 0], none⟩,
    ⟨none, .store 2 (.t 3) (.t 6), none⟩] [0, 2, 3] [0, 2, 3])
  (.seq (.reg [⟨some 7, .mv (.t 0), none⟩,
    ⟨some 8, .call 152 [.t 7] [0] [], none⟩,
    ⟨some 9, .faddr 1 (.t 3), none⟩,
    ⟨none, .store 1 (.t 9) (.t 8), none⟩] [2, 3] [0, 2, 3])
  (.seq (.reg [⟨some 10, .load true 2 (.t 3), none⟩,
    ⟨none, .store 2 (.t 2) (.t 10), none⟩] [2] [0, 2])
  (.ret))))
def impl_scan_stamp.m : Fn := { np := 1, body := impl_scan_stamp.b, res := [.cell 2 true 2] }
def impl_scan_stamp.k (M : Nat → Option Body) : Prop := M 222 = some (.code impl_scan_stamp.m) ∧ impl_scan_num.k M
def impl_scan_nums.l0 : C := .seq (.reg [⟨some 14, .bin .lss (.t 13) (.t 12), none⟩] [0, 5, 12, 13, 14] [0, 8, 20])
  (.seq (.cond (.t 14) (.skip) (.exit 0))
  (.seq (.block 1 (.seq (.reg [⟨some 15, .mv (.t 0), none⟩,
    ⟨some 16, .call 152 [.t 15] [0] [], none⟩,
    ⟨some 7, .mv (.t 16), none⟩] [0, 5, 7, 12, 13] [0, 8, 20])
  (.reg [⟨some 17, .mv (.t 5), none⟩,
    ⟨some 18, .mv (.t 7), none⟩,
    ⟨some 19, .bslice 1 1 [.int .i64 0] [(0, .t 18)], none⟩,
    ⟨some 20, .app 1 8 (.t 17) (.t 19), none⟩,
    ⟨some 5, .mv (.t 20), none⟩] [0, 5, 12, 13] [0, 8, 20])))
  (.reg [⟨some 21, .bin .add (.t 13) (.k (.int .i64 1)), none⟩,
    ⟨some 13, .mv (.t 21), none⟩] [0, 5, 12, 13] [0, 8, 20])))
def impl_scan_nums.b : C := .seq (.reg [⟨some 4, .nil 1, none⟩] [0, 1] [0])
  (.seq (.reg [⟨some 8, .bslice 1 0 [.int .i64 0] [], none⟩,
    ⟨some 5, .mv (.t 8), none⟩] [0, 1, 5] [0, 8, 20])
  (.seq (.reg [⟨some 9, .mv (.t 0), none⟩,
    ⟨some 10, .mv (.t 1), none⟩,
    ⟨some 11, .call 169 [.t 9, .t 10] [0] [], none⟩,
    ⟨some 6, .mv (.t 11), none⟩] [0, 5, 6] [0, 8, 20])
  (.seq (.seq (.reg [⟨some 12, .mv (.t 6), none⟩,
    ⟨some 13, .mv (.k (.int .i64 0)), none⟩] [0, 5, 12, 13] [0, 8, 20])
  (.block 0 (.loop impl_scan_nums.l0)))
  (.seq (.reg [⟨some 22, .mv (.t 5), none⟩,
    ⟨some 4, .mv (.t 22), none⟩] [4] [0, 4, 8, 20])
  (.ret)))))
def impl_scan_nums.m : Fn := { np := 2, body := impl_scan_nums.b, res := [.tmp 4] }
def impl_scan_nums.k (M : Nat → Option Body) : Prop := M 170 = some (.code impl_scan_nums.m) ∧ impl_scan_num.k M ∧ impl_scan_many.k M
def impl_scan_mail.l0 : C := .seq (.reg [⟨some 12, .bin .lss (.t 11) (.k (.int .i64 3)), none⟩] [0, 2, 3, 11, 12] [0, 2, 3, 23])
  (.seq (.cond (.t 12) (.skip) (.exit 0))
  (.seq (.block 1 (.seq (.reg [⟨some 13, .mv (.t 0), none⟩,
    ⟨some 14, .call 152 [.t 13] [0] [], none⟩,
    ⟨some 15, .build [.int .i64 0, .int .i64 0, .int .i64 0] [(0, 1, .t 14)], none⟩,
    ⟨some 4, .alloc [.int .i64 0, .int .i64 0, .int .i64 0], none⟩,
    ⟨none, .store 3 (.t 4) (.t 15), none⟩] [0, 2, 3, 4, 11] [0, 2, 3, 4, 23])
  (.seq (.reg [⟨some 16, .mv (.t 0), none⟩,
    ⟨some 17, .call 222 [.t 16] [0] [], none⟩,
    ⟨some 18, .faddr 1 (.t 4), none⟩,
    ⟨none, .store 2 (.t 18) (.t 17), none⟩] [0, 2, 3, 4, 11] [0, 2, 3, 4, 23])
  (.reg [⟨some 19, .faddr 2 (.t 3), none⟩,
    ⟨some 20, .load false 1 (.t 19), none⟩,
    ⟨some 21, .load true 3 (.t 4), none⟩,
    ⟨some 22, .bslice 3 1 [.int .i64 0, .int .i64 0, .int .i64 0] [(0, .t 21)], none⟩,
    ⟨some 23, .app 3 24 (.t 20) (.t 22), none⟩,
    ⟨some 24, .faddr 2 (.t 3), none⟩,
    ⟨none, .store 1 (.t 24) (.t 23), none⟩] [0, 2, 3, 11] [0, 2, 3, 23]))))
  (.reg [⟨some 25, .bin .add (.t 11) (.k (.int .i64 1)), none⟩,
    ⟨some 11, .mv (.t 25), none⟩] [0, 2, 3, 11] [0, 2, 3, 23])))
def impl_scan_mail.b : C := .seq (.reg [⟨some 2, .alloc [.int .i64 0, .int .i64 0, .nils 3, .str ⟨#[]⟩], none⟩] [0, 2] [0, 2, 23])
  (.seq (.reg [⟨some 5, .mv (.t 0), none⟩,
    ⟨some 6, .call 152 [.t 5] [0] [], none⟩,
    ⟨some 7, .build [.int .i64 0, .int .i64 0, .nils 3, .str ⟨#[]⟩] [(0, 1, .t 6)], none⟩,
    ⟨some 3, .alloc [.int .i64 0, .int .i64 0, .nils 3, .str ⟨#[]⟩], none⟩,
    ⟨none, .store 4 (.t 3) (.t 7), none⟩] [0, 2, 3] [0, 2, 3, 23])
  (.seq (.reg [⟨some 8, .mv (.t 0), none⟩,
    ⟨some 9, .call 152 [.t 8] [0] [], none⟩,
    ⟨some 10, .faddr 1 (.t 3), none⟩,
    ⟨none, .store 1 (.t 10) (.t 9), none⟩] [0, 2, 3] [0, 2, 3, 23])
  (.seq (.seq (.reg [⟨some 11, .mv (.k (.int .i64 0)), none⟩] [0, 2, 3, 11] [0, 2, 3, 23])
  (.block 0 (.loop impl_scan_mail.l0)))
  (.seq (.reg [⟨some 26, .mv (.t 0), none⟩,
    ⟨some 27, .call 153 [.t 26] [0] [], none⟩,
    ⟨some 28, .faddr 3 (.t 3), none⟩,
    ⟨none, .store 1 (.t 28) (.t 27), none⟩] [2, 3] [0, 2, 3, 23])
  (.seq (.reg [⟨some 29, .load true 4 (.t 3), none⟩,
    ⟨none, .store 4 (.t 2) (.t 29), none⟩] [2] [0, 2, 23])
  (.ret))))))
def impl_scan_mail.m : Fn := { np := 1, body := impl_scan_mail.b, res := [.cell 2 true 4] }
def impl_scan_mail.k (M : Nat → Option Body) : Prop := M 223 = some (.code impl_scan_mail.m) ∧ impl_scan_num.k M ∧ impl_scan_short.k M ∧ impl_scan_stamp.k M
def impl_scan_box.l0 : C := .seq (.reg [⟨some 22, .bin .lss (.t 21) (.t 20), none⟩] [0, 2, 3, 20, 21, 22] [0, 2, 3, 29, 13300])
  (.seq (.cond (.t 22) (.skip) (.exit 0))
  (.seq (.block 1 (.seq (.reg [⟨some 23, .mv (.t 0), none⟩,
    ⟨some 24, .call 223 [.t 23] [0] [], none⟩,
    ⟨some 5, .alloc [.int .i64 0, .int .i64 0, .nils 3, .str ⟨#[]⟩], none⟩,
    ⟨none, .store 4 (.t 5) (.t 24), none⟩] [0, 2, 3, 5, 20, 21] [0, 2, 3, 5, 29, 13300])
  (.reg [⟨some 25, .faddr 5 (.t 3), none⟩,
    ⟨some 26, .load false 1 (.t 25), none⟩,
    ⟨some 27, .load true 4 (.t 5), none⟩,
    ⟨some 28, .bslice 4 1 [.int .i64 0, .int .i64 0, .nils 3, .str ⟨#[]⟩] [(0, .t 27)], none⟩,
    ⟨some 29, .app 4 56 (.t 26) (.t 28), none⟩,
    ⟨some 30, .faddr 5 (.t 3), none⟩,
    ⟨none, .store 1 (.t 30) (.t 29), none⟩] [0, 2, 3, 20, 21] [0, 2, 3, 29, 13300])))
  (.reg [⟨some 31, .bin .add (.t 21) (.k (.int .i64 1)), none⟩,
    ⟨some 21, .mv (.t 31), none⟩] [0, 2, 3, 20, 21] [0, 2, 3, 29, 13300])))
def impl_scan_box.b : C := .seq (.reg [⟨some 2, .alloc [.int .i64 0, .str ⟨#[]⟩, .int .i64 0, .int .i64 0, .int .i64 0, .nils 4, .nils 1], none⟩] [0, 2] [0, 2, 29, 13300])
  (.seq (.reg [⟨some 6, .mv (.t 0), none⟩,
    ⟨some 7, .call 152 [.t 6] [0] [], none⟩,
    ⟨some 8, .build [.int .i64 0, .str ⟨#[]⟩, .int .i64 0, .int .i64 0, .int .i64 0, .nils 4, .nils 1] [(0, 1, .t 7)], none⟩,
    ⟨some 3, .alloc [.int .i64 0, .str ⟨#[]⟩, .int .i64 0, .int .i64 0, .int .i64 0, .nils 4, .nils 1], none⟩,
    ⟨none, .store 7 (.t 3) (.t 8), none⟩] [0, 2, 3] [0, 2, 3, 29, 13300])
  (.seq (.reg [⟨some 9, .mv (.t 0), none⟩,
    ⟨some 10, .call 153 [.t 9] [0] [], none⟩,
    ⟨some 11, .faddr 1 (.t 3), none⟩,
    ⟨none, .store 1 (.t 11) (.t 10), none⟩] [0, 2, 3] [0, 2, 3, 29, 13300])
  (.seq (.reg [⟨some 12, .mv (.t 0), none⟩,
    ⟨some 13, .call 222 [.t 12] [0] [], none⟩,
    ⟨some 14, .faddr 2 (.t 3), none⟩,
    ⟨none, .store 2 (.t 14) (.t 13), none⟩] [0, 2, 3] [0, 2, 3, 29, 13300])
  (.seq (.reg [⟨some 15, .mv (.t 0), none⟩,
    ⟨some 16, .call 152 [.t 15] [0] [], none⟩,
    ⟨some 17, .faddr 4 (.t 3), none⟩,
    ⟨none, .store 1 (.t 17) (.t 16), none⟩] [0, 2, 3] [0, 2, 3, 29, 13300])
  (.seq (.reg [⟨some 18, .mv (.t 0), none⟩,
    ⟨some 19, .call 169 [.t 18, .k (.int .i64 10)] [0] [], none⟩,
    ⟨some 4, .mv (.t 19), none⟩] [0, 2, 3, 4] [0, 2, 3, 29, 13300])
  (.seq (.seq (.reg [⟨some 20, .mv (.t 4), none⟩,
    ⟨some 21, .mv (.k (.int .i64 0)), none⟩] [0, 2, 3, 20, 21] [0, 2, 3, 29, 13300])
  (.block 0 (.loop impl_scan_box.l0)))
  (.seq (.reg [⟨some 32, .mv (.t 0), none⟩,
    ⟨some 33, .call 170 [.t 32, .k (.int .i64 40)] [0] [(0, 13300)], none⟩,
    ⟨some 34, .faddr 6 (.t 3), none⟩,
    ⟨none, .store 1 (.t 34) (.t 33), none⟩] [2, 3] [0, 2, 3, 29, 13300])
  (.seq (.reg [⟨some 35, .load true 7 (.t 3), none⟩,
    ⟨none, .store 7 (.t 2) (.t 35), none⟩] [2] [0, 2, 29, 13300])
  (.ret)))))))))
def impl_scan_box.m : Fn := { np := 1, body := impl_scan_box.b, res := [.cell 2 true 7] }
def impl_scan_box.k (M : Nat → Option Body) : Prop := M 143 = some (.code impl_scan_box.m) ∧ impl_scan_num.k M ∧ impl_scan_short.k M ∧ impl_scan_many.k M ∧ impl_scan_nums.k M ∧ impl_scan_stamp.k M ∧ impl_scan_mail.k M
def spec_l05Var.b : C := .seq (.reg [⟨some 2, .mv (.k (.int .i64 0)), none⟩] [0] [0])
  (.seq (.regd [⟨some 7, .mv (.t 0), none⟩,
    ⟨some 8, .nilc (.t 7), none⟩,
    ⟨some 9, .faddr 0 (.t 8), none⟩,
    ⟨some 10, .load false 1 (.t 9), none⟩,
    ⟨some 11, .mv (.t 0), none⟩,
    ⟨some 12, .nilc (.t 11), none⟩,
    ⟨some 13, .faddr 1 (.t 12), none⟩,
    ⟨some 14, .load false 1 (.t 13), none⟩,
    ⟨some 15, .call 221 [.t 10, .t 14] [] [], none⟩,
    ⟨some 6, .mv (.t 15), none⟩,
    ⟨some 16, .ext 0 (.t 6), none⟩,
    ⟨some 17, .ext 1 (.t 6), none⟩,
    ⟨some 18, .ext 2 (.t 6), none⟩,
    ⟨some 3, .mv (.t 16), none⟩,
    ⟨some 4, .mv (.t 17), none⟩,
    ⟨some 5, .mv (.t 18), none⟩] [[], [0], [0, 1], [0, 1, 2], [], [4], [4, 5], [4, 5, 6], List.range 8, List.range 9, List.range 10, List.range 10, List.range 10, List.range 11, List.range 12 ++ [13], List.range 15] [0, 3, 4, 5] [0])
  (.seq (.seq (.reg [⟨some 19, .mv (.t 0), none⟩,
    ⟨some 20, .nilc (.t 19), none⟩,
    ⟨some 21, .faddr 2 (.t 20), none⟩,
    ⟨some 22, .load false 1 (.t 21), none⟩,
    ⟨some 23, .mv (.t 22), none⟩,
    ⟨some 24, .mv (.t 5), some (23, false)⟩,
    ⟨some 25, .not (.t 24), some (23, false)⟩,
    ⟨some 26, .pick (.t 23) (.k (.bool true)) (.t 25), none⟩] [0, 3, 4, 26] [0])
  (.cond (.t 26) (.seq (.reg [⟨some 27, .mv (.t 0), none⟩,
    ⟨some 28, .nilc (.t 27), none⟩,
    ⟨some 29, .faddr 2 (.t 28), none⟩,
    ⟨none, .store 1 (.t 29) (.k (.bool true)), none⟩] [] [0])
  (.seq (.reg [⟨some 2, .mv (.k (.int .i64 0)), none⟩] [2] [0])
  (.ret))) (.skip)))
  (.seq (.reg [⟨some 30, .mv (.t 0), none⟩,
    ⟨some 31, .mv (.t 4), none⟩,
    ⟨some 32, .nilc (.t 30), none⟩,
    ⟨some 33, .faddr 1 (.t 32), none⟩,
    ⟨none, .store 1 (.t 33) (.t 31), none⟩] [3] [0])
  (.seq (.reg [⟨some 34, .mv (.t 3), none⟩,
    ⟨some 2, .mv (.t 34), none⟩] [2] [0])
  (.ret)))))
def spec_l05Var.m : Fn := { np := 1, body := spec_l05Var.b, res := [.tmp 2] }
def spec_l05Var.k (M : Nat → Option Body) : Prop := M 139 = some (.code spec_l05Var.m) ∧ spec_ReadVar.k M
def spec_l05Short.b : C := .seq (.reg [⟨some 2, .mv (.k (.str ⟨#[]⟩)), none⟩] [0] [0])
  (.seq (.regd [⟨some 7, .mv (.t 0), none⟩,
    ⟨some 8, .nilc (.t 7), none⟩,
    ⟨some 9, .faddr 0 (.t 8), none⟩,
    ⟨some 10, .load false 1 (.t 9), none⟩,
    ⟨some 11, .mv (.t 0), none⟩,
    ⟨some 12, .nilc (.t 11), none⟩,
    ⟨some 13, .faddr 1 (.t 12), none⟩,
    ⟨some 14, .load false 1 (.t 13), none⟩,
    ⟨some 15, .call 206 [.t 10, .t 14] [] [], none⟩,
    ⟨some 6, .mv (.t 15), none⟩,
    ⟨some 16, .ext 0 (.t 6), none⟩,
    ⟨some 17, .ext 1 (.t 6), none⟩,
    ⟨some 18, .ext 2 (.t 6), none⟩,
    ⟨some 3, .mv (.t 16), none⟩,
    ⟨some 4, .mv (.t 17), none⟩,
    ⟨some 5, .mv (.t 18), none⟩] [[], [0], [0, 1], [0, 1, 2], [], [4], [4, 5], [4, 5, 6], List.range 8, List.range 9, List.range 10, List.range 10, List.range 10, List.range 11, List.range 12 ++ [13], List.range 15] [0, 3, 4, 5] [0])
  (.seq (.seq (.reg [⟨some 19, .mv (.t 0), none⟩,
    ⟨some 20, .nilc (.t 19), none⟩,
    ⟨some 21, .faddr 2 (.t 20), none⟩,
    ⟨some 22, .load false 1 (.t 21), none⟩,
    ⟨some 23, .mv (.t 22), none⟩,
    ⟨some 24, .mv (.t 5), some (23, false)⟩,
    ⟨some 25, .not (.t 24), some (23, false)⟩,
    ⟨some 26, .pick (.t 23) (.k (.bool true)) (.t 25), none⟩] [0, 3, 4, 26] [0])
  (.cond (.t 26) (.seq (.reg [⟨some 27, .mv (.t 0), none⟩,
    ⟨some 28, .nilc (.t 27), none⟩,
    ⟨some 29, .faddr 2 (.t 28), none⟩,
    ⟨none, .store 1 (.t 29) (.k (.bool true)), none⟩] [] [0])
  (.seq (.reg [⟨some 2, .mv (.k (.str ⟨#[]⟩)), none⟩] [2] [0])
  (.ret))) (.skip)))
  (.seq (.reg [⟨some 30, .mv (.t 0), none⟩,
    ⟨some 31, .mv (.t 4), none⟩,
    ⟨some 32, .nilc (.t 30), none⟩,
    ⟨some 33, .faddr 1 (.t 32), none⟩,
    ⟨none, .store 1 (.t 33) (.t 31), none⟩] [3] [0])
  (.seq (.reg [⟨some 34, .mv (.t 3), none⟩,
    ⟨some 2, .mv (.t 34), none⟩] [2] [0])
  (.ret)))))
def spec_l05Short.m : Fn := { np := 1, body := spec_l05Short.b, res := [.tmp 2] }
def spec_l05Short.k (M : Nat → Option Body) : Prop := M 140 = some (.code spec_l05Short.m) ∧ spec_ReadShort.k M
def spec_l10Ints.l0 : C := .seq (.seq (.reg [⟨some 11, .mv (.t 7), none⟩,
    ⟨some 12, .mv (.t 5), none⟩,
    ⟨some 13, .bin .lss (.t 11) (.t 12), none⟩,
    ⟨some 14, .mv (.t 13), none⟩,
    ⟨some 15, .mv (.t 7), some (14, true)⟩,
    ⟨some 16, .mv (.t 1), some (14, true)⟩,
    ⟨some 17, .bin .leq (.t 15) (.t 16), some (14, true)⟩,
    ⟨some 18, .pick (.t 14) (.t 17) (.k (.bool false)), none⟩,
    ⟨some 19, .mv (.t 18), none⟩,
    ⟨some 20, .mv (.t 0), some (19, true)⟩,
    ⟨some 21, .nilc (.t 20), some (19, true)⟩,
    ⟨some 22, .faddr 2 (.t 21), some (19, true)⟩,
    ⟨some 23, .load false 1 (.t 22), some (19, true)⟩,
    ⟨some 24, .not (.t 23), some (19, true)⟩,
    ⟨some 25, .pick (.t 19) (.t 24) (.k (.bool false)), none⟩] [0, 1, 5, 6, 7, 25] [0, 10, 32])
  (.cond (.t 25) (.skip) (.exit 0)))
  (.seq (.block 1 (.reg [⟨some 28, .mv (.t 6), none⟩,
    ⟨some 29, .mv (.t 0), none⟩,
    ⟨some 30, .call 139 [.t 29] [0] [], none⟩,
    ⟨some 31, .bslice 1 1 [.int .i64 0] [(0, .t 30)], none⟩,
    ⟨some 32, .app 1 8 (.t 28) (.t 31), none⟩,
    ⟨some 6, .mv (.t 32), none⟩] [0, 1, 5, 6, 7] [0, 10, 32]))
  (.reg [⟨some 26, .mv (.t 7), none⟩,
    ⟨some 27, .bin .add (.t 26) (.k (.int .i64 1)), none⟩,
    ⟨some 7, .mv (.t 27), none⟩] [0, 1, 5, 6, 7] [0, 10, 32]))
def spec_l10Ints.b : C := .seq (.reg [⟨some 4, .nil 1, none⟩] [0, 1] [0])
  (.seq (.reg [⟨some 8, .mv (.t 0), none⟩,
    ⟨some 9, .call 139 [.t 8] [0] [], none⟩,
    ⟨some 5, .mv (.t 9), none⟩] [0, 1, 5] [0])
  (.seq (.reg [⟨some 10, .bslice 1 0 [.int .i64 0] [], none⟩,
    ⟨some 6, .mv (.t 10), none⟩] [0, 1, 5, 6] [0, 10, 32])
  (.seq (.seq (.reg [⟨some 7, .mv (.k (.int .i64 0)), none⟩] [0, 1, 5, 6, 7] [0, 10, 32])
  (.block 0 (.loop spec_l10Ints.l0)))
  (.seq (.reg [⟨some 33, .mv (.t 6), none⟩,
    ⟨some 4, .mv (.t 33), none⟩] [4] [0, 4, 10, 32])
  (.ret)))))
def spec_l10Ints.m : Fn := { np := 2, body := spec_l10Ints.b, res := [.tmp 4] }
def spec_l10Ints.k (M : Nat → Option Body) : Prop := M 142 = some (.code spec_l10Ints.m) ∧ spec_l05Var.k M
def spec_ReadMail.l0 : C := .seq (.seq (.reg [⟨some 21, .mv (.t 9), none⟩,
    ⟨some 22, .bin .lss (.t 21) (.k (.int .i64 3)), none⟩] [4, 7, 8, 9, 22] [4, 8, 14, 40])
  (.cond (.t 22) (.skip) (.exit 0)))
  (.seq (.block 1 (.seq (.reg [⟨some 25, .mv (.t 7), none⟩,
    ⟨some 26, .call 139 [.t 25] [0] [], none⟩,
    ⟨some 27, .build [.int .i64 0, .int .i64 0, .int .i64 0] [(0, 1, .t 26)], none⟩,
    ⟨some 10, .alloc [.int .i64 0, .int .i64 0, .int .i64 0], none⟩,
    ⟨none, .store 3 (.t 10) (.t 27), none⟩] [4, 7, 8, 9, 10] [4, 8, 10, 14, 40])
  (.seq (.reg [⟨some 28, .mv (.t 7), none⟩,
    ⟨some 29, .call 139 [.t 28] [0] [], none⟩,
    ⟨some 30, .faddr 1 (.t 10), none⟩,
    ⟨some 31, .faddr 0 (.t 30), none⟩,
    ⟨none, .store 1 (.t 31) (.t 29), none⟩] [4, 7, 8, 9, 10] [4, 8, 10, 14, 40])
  (.seq (.reg [⟨some 32, .mv (.t 7), none⟩,
    ⟨some 33, .call 139 [.t 32] [0] [], none⟩,
    ⟨some 34, .faddr 1 (.t 10), none⟩,
    ⟨some 35, .faddr 1 (.t 34), none⟩,
    ⟨none, .store 1 (.t 35) (.t 33), none⟩] [4, 7, 8, 9, 10] [4, 8, 10, 14, 40])
  (.reg [⟨some 36, .faddr 2 (.t 8), none⟩,
    ⟨some 37, .load false 1 (.t 36), none⟩,
    ⟨some 38, .load true 3 (.t 10), none⟩,
    ⟨some 39, .bslice 3 1 [.int .i64 0, .int .i64 0, .int .i64 0] [(0, .t 38)], none⟩,
    ⟨some 40, .app 3 24 (.t 37) (.t 39), none⟩,
    ⟨some 41, .faddr 2 (.t 8), none⟩,
    ⟨none, .store 1 (.t 41) (.t 40), none⟩] [4, 7, 8, 9] [4, 8, 14, 40])))))
  (.reg [⟨some 23, .mv (.t 9), none⟩,
    ⟨some 24, .bin .add (.t 23) (.k (.int .i64 1)), none⟩,
    ⟨some 9, .mv (.t 24), none⟩] [4, 7, 8, 9] [4, 8, 14, 40]))
def spec_ReadMail.b : C := .seq (.reg [⟨some 4, .alloc [.int .i64 0, .int .i64 0, .nils 3, .str ⟨#[]⟩], none⟩,
    ⟨some 5, .mv (.k (.int .i64 0)), none⟩,
    ⟨some 6, .mv (.k (.bool false)), none⟩] [0, 1, 4] [4, 40])
  (.seq (.reg [⟨some 11, .mv (.t 0), none⟩,
    ⟨some 12, .mv (.t 1), none⟩,
    ⟨some 13, .build [.str ⟨#[]⟩, .int .i64 0, .bool false] [(0, 1, .t 11), (1, 1, .t 12)], none⟩,
    ⟨some 14, .box (.t 13), none⟩,
    ⟨some 7, .mv (.t 14), none⟩] [4, 7] [4, 14, 40])
  (.seq (.reg [⟨some 15, .mv (.t 7), none⟩,
    ⟨some 16, .call 139 [.t 15] [0] [], none⟩,
    ⟨some 17, .build [.int .i64 0, .int .i64 0, .nils 3, .str ⟨#[]⟩] [(0, 1, .t 16)], none⟩,
    ⟨some 8, .alloc [.int .i64 0, .int .i64 0, .nils 3, .str ⟨#[]⟩], none⟩,
    ⟨none, .store 4 (.t 8) (.t 17), none⟩] [4, 7, 8] [4, 8, 14, 40])
  (.seq (.reg [⟨some 18, .mv (.t 7), none⟩,
    ⟨some 19, .call 139 [.t 18] [0] [], none⟩,
    ⟨some 20, .faddr 1 (.t 8), none⟩,
    ⟨none, .store 1 (.t 20) (.t 19), none⟩] [4, 7, 8] [4, 8, 14, 40])
  (.seq (.seq (.reg [⟨some 9, .mv (.k (.int .i64 0)), none⟩] [4, 7, 8, 9] [4, 8, 14, 40])
  (.block 0 (.loop spec_ReadMail.l0)))
  (.seq (.reg [⟨some 42, .mv (.t 7), none⟩,
    ⟨some 43, .call 140 [.t 42] [0] [], none⟩,
    ⟨some 44, .faddr 3 (.t 8), none⟩,
    ⟨none, .store 1 (.t 44) (.t 43), none⟩] [4, 7, 8] [4, 8, 14, 40])
  (.seq (.seq (.reg [⟨some 45, .mv (.t 7), none⟩,
    ⟨some 46, .nilc (.t 45), none⟩,
    ⟨some 47, .faddr 2 (.t 46), none⟩,
    ⟨some 48, .load false 1 (.t 47), none⟩,
    ⟨some 49, .mv (.t 48), none⟩,
    ⟨some 50, .load true 4 (.t 8), some (49, false)⟩,
    ⟨some 51, .call 187 [.t 50] [] [], some (49, false)⟩,
    ⟨some 52, .not (.t 51), some (49, false)⟩,
    ⟨some 53, .pick (.t 49) (.k (.bool true)) (.t 52), none⟩] [4, 7, 8, 53] [4, 8, 14, 40])
  (.cond (.t 53) (.seq (.reg [⟨some 54, .build [.int .i64 0, .int .i64 0, .nils 3, .str ⟨#[]⟩] [], none⟩,
    ⟨none, .store 4 (.t 4) (.t 54), none⟩,
    ⟨some 5, .mv (.k (.int .i64 0)), none⟩,
    ⟨some 6, .mv (.k (.bool false)), none⟩] [4, 5, 6] [4, 40])
  (.ret)) (.skip)))
  (.seq (.regd [⟨some 55, .load true 4 (.t 8), none⟩,
    ⟨some 56, .mv (.t 7), none⟩,
    ⟨some 57, .nilc (.t 56), none⟩,
    ⟨some 58, .faddr 1 (.t 57), none⟩,
    ⟨some 59, .load false 1 (.t 58), none⟩,
    ⟨none, .store 4 (.t 4) (.t 55), none⟩,
    ⟨some 5, .mv (.t 59), none⟩,
    ⟨some 6, .mv (.k (.bool true)), none⟩] [[], [], [1], [1, 2], [1, 2, 3], [0], List.range 6, List.range 7] [4, 5, 6] [4, 40])
  (.ret))))))))
def spec_ReadMail.m : Fn := { np := 2, body := spec_ReadMail.b, res := [.cell 4 true 4, .tmp 5, .tmp 6] }
def spec_ReadMail.k (M : Nat → Option Body) : Prop := M 141 = some (.code spec_ReadMail.m) ∧ spec_l05Var.k M ∧ spec_l05Short.k M ∧ spec_MailOk.k M
def spec_ReadBox.l0 : C := .seq (.seq (.reg [⟨some 37, .mv (.t 10), none⟩,
    ⟨some 38, .mv (.t 9), none⟩,
    ⟨some 39, .bin .lss (.t 37) (.t 38), none⟩,
    ⟨some 40, .mv (.t 39), none⟩,
    ⟨some 41, .mv (.t 10), some (40, true)⟩,
    ⟨some 42, .bin .leq (.t 41) (.k (.int .i64 10)), some (40, true)⟩,
    ⟨some 43, .pick (.t 40) (.t 42) (.k (.bool false)), none⟩,
    ⟨some 44, .mv (.t 43), none⟩,
    ⟨some 45, .mv (.t 7), some (44, true)⟩,
    ⟨some 46, .nilc (.t 45), some (44, true)⟩,
    ⟨some 47, .faddr 2 (.t 46), some (44, true)⟩,
    ⟨some 48, .load false 1 (.t 47), some (44, true)⟩,
    ⟨some 49, .not (.t 48), some (44, true)⟩,
    ⟨some 50, .pick (.t 44) (.t 49) (.k (.bool false)), none⟩] [0, 4, 7, 8, 9, 10, 50] [4, 8, 17, 70, 17700])
  (.cond (.t 50) (.skip) (.exit 0)))
  (.seq (.block 1 (.seq (.reg [⟨some 54, .mv (.t 0), none⟩,
    ⟨some 55, .mv (.t 7), none⟩,
    ⟨some 56, .nilc (.t 55), none⟩,
    ⟨some 57, .faddr 1 (.t 56), none⟩,
    ⟨some 58, .load false 1 (.t 57), none⟩,
    ⟨some 59, .call 141 [.t 54, .t 58] [] [], none⟩,
    ⟨some 53, .mv (.t 59), none⟩,
    ⟨some 60, .ext 0 (.t 53), none⟩,
    ⟨some 61, .ext 1 (.t 53), none⟩,
    ⟨some 62, .ext 2 (.t 53), none⟩,
    ⟨some 11, .alloc [.int .i64 0, .int .i64 0, .nils 3, .str ⟨#[]⟩], none⟩,
    ⟨none, .store 4 (.t 11) (.t 60), none⟩,
    ⟨some 12, .mv (.t 61), none⟩,
    ⟨some 13, .mv (.t 62), none⟩] [0, 4, 7, 8, 9, 10, 11, 12, 13] [4, 8, 11, 17, 70, 17700])
  (.seq (.seq (.reg [⟨some 63, .mv (.t 13), none⟩,
    ⟨some 64, .not (.t 63), none⟩] [0, 4, 7, 8, 9, 10, 11, 12, 64] [4, 8, 11, 17, 70, 17700])
  (.cond (.t 64) (.seq (.reg [⟨some 65, .build [.int .i64 0, .str ⟨#[]⟩, .int .i64 0, .int .i64 0, .int .i64 0, .nils 4, .nils 1] [], none⟩,
    ⟨none, .store 7 (.t 4) (.t 65), none⟩,
    ⟨some 5, .mv (.k (.int .i64 0)), none⟩,
    ⟨some 6, .mv (.k (.bool false)), none⟩] [4, 5, 6] [4, 70, 17700])
  (.ret)) (.skip)))
  (.seq (.reg [⟨some 66, .faddr 5 (.t 8), none⟩,
    ⟨some 67, .load false 1 (.t 66), none⟩,
    ⟨some 68, .load true 4 (.t 11), none⟩,
    ⟨some 69, .bslice 4 1 [.int .i64 0, .int .i64 0, .nils 3, .str ⟨#[]⟩] [(0, .t 68)], none⟩,
    ⟨some 70, .app 4 56 (.t 67) (.t 69), none⟩,
    ⟨some 71, .faddr 5 (.t 8), none⟩,
    ⟨none, .store 1 (.t 71) (.t 70), none⟩] [0, 4, 7, 8, 9, 10, 12] [4, 8, 17, 70, 17700])
  (.reg [⟨some 72, .mv (.t 7), none⟩,
    ⟨some 73, .mv (.t 12), none⟩,
    ⟨some 74, .nilc (.t 72), none⟩,
    ⟨some 75, .faddr 1 (.t 74), none⟩,
    ⟨none, .store 1 (.t 75) (.t 73), none⟩] [0, 4, 7, 8, 9, 10] [4, 8, 17, 70, 17700])))))
  (.reg [⟨some 51, .mv (.t 10), none⟩,
    ⟨some 52, .bin .add (.t 51) (.k (.int .i64 1)), none⟩,
    ⟨some 10, .mv (.t 52), none⟩] [0, 4, 7, 8, 9, 10] [4, 8, 17, 70, 17700]))
def spec_ReadBox.b : C := .seq (.reg [⟨some 4, .alloc [.int .i64 0, .str ⟨#[]⟩, .int .i64 0, .int .i64 0, .int .i64 0, .nils 4, .nils 1], none⟩,
    ⟨some 5, .mv (.k (.int .i64 0)), none⟩,
    ⟨some 6, .mv (.k (.bool false)), none⟩] [0, 1, 4] [4, 70, 17700])
  (.seq (.reg [⟨some 14, .mv (.t 0), none⟩,
    ⟨some 15, .mv (.t 1), none⟩,
    ⟨some 16, .build [.str ⟨#[]⟩, .int .i64 0, .bool false] [(0, 1, .t 14), (1, 1, .t 15)], none⟩,
    ⟨some 17, .box (.t 16), none⟩,
    ⟨some 7, .mv (.t 17), none⟩] [0, 4, 7] [4, 17, 70, 17700])
  (.seq (.reg [⟨some 18, .mv (.t 7), none⟩,
    ⟨some 19, .call 139 [.t 18] [0] [], none⟩,
    ⟨some 20, .build [.int .i64 0, .str ⟨#[]⟩, .int .i64 0, .int .i64 0, .int .i64 0, .nils 4, .nils 1] [(0, 1, .t 19)], none⟩,
    ⟨some 8, .alloc [.int .i64 0, .str ⟨#[]⟩, .int .i64 0, .int .i64 0, .int .i64 0, .nils 4, .nils 1], none⟩,
    ⟨none, .store 7 (.t 8) (.t 20), none⟩] [0, 4, 7, 8] [4, 8, 17, 70, 17700])
  (.seq (.reg [⟨some 21, .mv (.t 7), none⟩,
    ⟨some 22, .call 140 [.t 21] [0] [], none⟩,
    ⟨some 23, .faddr 1 (.t 8), none⟩,
    ⟨none, .store 1 (.t 23) (.t 22), none⟩] [0, 4, 7, 8] [4, 8, 17, 70, 17700])
  (.seq (.reg [⟨some 24, .mv (.t 7), none⟩,
    ⟨some 25, .call 139 [.t 24] [0] [], none⟩,
    ⟨some 26, .faddr 2 (.t 8), none⟩,
    ⟨some 27, .faddr 0 (.t 26), none⟩,
    ⟨none, .store 1 (.t 27) (.t 25), none⟩] [0, 4, 7, 8] [4, 8, 17, 70, 17700])
  (.seq (.reg [⟨some 28, .mv (.t 7), none⟩,
    ⟨some 29, .call 139 [.t 28] [0] [], none⟩,
    ⟨some 30, .faddr 2 (.t 8), none⟩,
    ⟨some 31, .faddr 1 (.t 30), none⟩,
    ⟨none, .store 1 (.t 31) (.t 29), none⟩] [0, 4, 7, 8] [4, 8, 17, 70, 17700])
  (.seq (.reg [⟨some 32, .mv (.t 7), none⟩,
    ⟨some 33, .call 139 [.t 32] [0] [], none⟩,
    ⟨some 34, .faddr 4 (.t 8), none⟩,
    ⟨none, .store 1 (.t 34) (.t 33), none⟩] [0, 4, 7, 8] [4, 8, 17, 70, 17700])
  (.seq (.reg [⟨some 35, .mv (.t 7), none⟩,
    ⟨some 36, .call 139 [.t 35] [0] [], none⟩,
    ⟨some 9, .mv (.t 36), none⟩] [0, 4, 7, 8, 9] [4, 8, 17, 70, 17700])
  (.seq (.seq (.reg [⟨some 10, .mv (.k (.int .i64 0)), none⟩] [0, 4, 7, 8, 9, 10] [4, 8, 17, 70, 17700])
  (.block 0 (.loop spec_ReadBox.l0)))
  (.seq (.reg [⟨some 76, .mv (.t 7), none⟩,
    ⟨some 77, .call 142 [.t 76, .k (.int .i64 40)] [0] [(0, 17700)], none⟩,
    ⟨some 78, .faddr 6 (.t 8), none⟩,
    ⟨none, .store 1 (.t 78) (.t 77), none⟩] [4, 7, 8] [4, 8, 17, 70, 17700])
  (.seq (.seq (.reg [⟨some 79, .mv (.t 7), none⟩,
    ⟨some 80, .nilc (.t 79), none⟩,
    ⟨some 81, .faddr 2 (.t 80), none⟩,
    ⟨some 82, .load false 1 (.t 81), none⟩,
    ⟨some 83, .mv (.t 82), none⟩,
    ⟨some 84, .load true 7 (.t 8), some (83, false)⟩,
    ⟨some 85, .call 88 [.t 84] [] [], some (83, false)⟩,
    ⟨some 86, .not (.t 85), some (83, false)⟩,
    ⟨some 87, .pick (.t 83) (.k (.bool true)) (.t 86), none⟩] [4, 7, 8, 87] [4, 8, 17, 70, 17700])
  (.cond (.t 87) (.seq (.reg [⟨some 88, .build [.int .i64 0, .str ⟨#[]⟩, .int .i64 0, .int .i64 0, .int .i64 0, .nils 4, .nils 1] [], none⟩,
    ⟨none, .store 7 (.t 4) (.t 88), none⟩,
    ⟨some 5, .mv (.k (.int .i64 0)), none⟩,
    ⟨some 6, .mv (.k (.bool false)), none⟩] [4, 5, 6] [4, 70, 17700])
  (.ret)) (.skip)))
  (.seq (.regd [⟨some 89, .load true 7 (.t 8), none⟩,
    ⟨some 90, .mv (.t 7), none⟩,
    ⟨some 91, .nilc (.t 90), none⟩,
    ⟨some 92, .faddr 1 (.t 91), none⟩,
    ⟨some 93, .load false 1 (.t 92), none⟩,
    ⟨none, .store 7 (.t 4) (.t 89), none⟩,
    ⟨some 5, .mv (.t 93), none⟩,
    ⟨some 6, .mv (.k (.bool true)), none⟩] [[], [], [1], [1, 2], [1, 2, 3], [0], List.range 6, List.range 7] [4, 5, 6] [4, 70, 17700])
  (.ret))))))))))))
def spec_ReadBox.m : Fn := { np := 2, body := spec_ReadBox.b, res := [.cell 4 true 7, .tmp 5, .tmp 6] }
def spec_ReadBox.k (M : Nat → Option Body) : Prop := M 52 = some (.code spec_ReadBox.m) ∧ spec_BoxOk.k M ∧ spec_l05Var.k M ∧ spec_l05Short.k M ∧ spec_ReadMail.k M ∧ spec_l10Ints.k M
end Mx

/-
  Readers over a cursor: numbers, texts, stamps, lists of numbers, mails, boxes.
-/
namespace Mx
open Go
variable {M : Nat → Option Body}
/-- a cursor: where it stands, and whether something did not stand there -/
abbrev Cur := Int × Bool
abbrev curO (v : Nat) (l : List UInt8) (c : Cur) : Ob := ⟨v, 3, true, true, [[S l, I c.1, .bool c.2]]⟩
abbrev curP : T := .ptr 0 0 0 0
def cvar (l : List UInt8) (c : Cur) : Int × Cur := if c.2 = true ∨ (readVar l c.1).2.2 = false then (0, c.1, true) else ((readVar l c.1).1, (readVar l c.1).2.1, false)
def cshort (l : List UInt8) (c : Cur) : List UInt8 × Cur := if c.2 = true ∨ (readShort l c.1).2.2 = false then ([], c.1, true) else ((readShort l c.1).1, (readShort l c.1).2.1, false)
theorem cvar_bad {l : List UInt8} {c : Cur} (h : c.2 = true) : cvar l c = (0, c.1, true) := by simp [cvar, h]
theorem cshort_bad {l : List UInt8} {c : Cur} (h : c.2 = true) : cshort l c = ([], c.1, true) := by simp [cshort, h]
theorem impl_scan_num.says (h : impl_scan_num.k M) (l : List UInt8) (hl : l.length ≤ 4611686018427387904) (c : Cur) :
    run M 152 [.c curP] [(0, curO 0 l c)] = some (.c (I (cvar l c).1), [(0, curO 0 l (cvar l c).2)]) := by
  obtain ⟨a, b⟩ := c
  have h1 := impl_ReadVar.says h.2 l hl a
  refine run_code (b := impl_scan_num.m) h.1 ⟨0, ?_⟩
  unfold cvar
  generalize readVar l a = r at *
  obtain ⟨n, e, ok⟩ := r
  cases b <;> cases ok <;> simp (maxSteps := 1000000) [exB, impl_scan_num.m, impl_scan_num.b, List.range_succ, bs_get, setAt, h1]
theorem impl_scan_short.says (h : impl_scan_short.k M) (l : List UInt8) (hl : l.length ≤ 4611686018427387904) (c : Cur) :
    run M 153 [.c curP] [(0, curO 0 l c)] = some (.c (S (cshort l c).1), [(0, curO 0 l (cshort l c).2)]) := by
  obtain ⟨a, b⟩ := c
  have h1 := impl_ReadShort.says h.2 l hl a
  refine run_code (b := impl_scan_short.m) h.1 ⟨0, ?_⟩
  unfold cshort
  generalize readShort l a = r at *
  obtain ⟨n, e, ok⟩ := r
  cases b <;> cases ok <;> simp (maxSteps := 1000000) [exB, impl_scan_short.m, impl_scan_short.b, List.range_succ, bs_get, setAt, h1]
theorem spec_l05Var.says (h : spec_l05Var.k M) (l : List UInt8) (hl : l.length ≤ 4611686018427387904) (c : Cur) :
    run M 139 [.c curP] [(0, curO 0 l c)] = some (.c (I (cvar l c).1), [(0, curO 0 l (cvar l c).2)]) := by
  obtain ⟨a, b⟩ := c
  have h1 := spec_ReadVar.says h.2 l hl a
  refine run_code (b := spec_l05Var.m) h.1 ⟨0, ?_⟩
  unfold cvar
  generalize readVar l a = r at *
  obtain ⟨n, e, ok⟩ := r
  cases b <;> cases ok <;> simp (maxSteps := 1000000) [exB, spec_l05Var.m, spec_l05Var.b, List.range_succ, bs_get, setAt, h1]
theorem spec_l05Short.says (h : spec_l05Short.k M) (l : List UInt8) (hl : l.length ≤ 4611686018427387904) (c : Cur) :
    run M 140 [.c curP] [(0, curO 0 l c)] = some (.c (S (cshort l c).1), [(0, curO 0 l (cshort l c).2)]) := by
  obtain ⟨a, b⟩ := c
  have h1 := spec_ReadShort.says h.2 l hl a
  refine run_code (b := spec_l05Short.m) h.1 ⟨0, ?_⟩
  unfold cshort
  generalize readShort l a = r at *
  obtain ⟨n, e, ok⟩ := r
  cases b <;> cases ok <;> simp (maxSteps := 1000000) [exB, spec_l05Short.m, spec_l05Short.b, List.range_succ, bs_get, setAt, h1]
/-- how many: more than a limit is a fault -/
def cmany (l : List UInt8) (most : Int) (c : Cur) : Int × Cur :=
  if most < (cvar l c).1 ∨ (cvar l c).2.2 = true then (0, (cvar l c).2.1, true) else cvar l c
theorem impl_scan_many.says (h : impl_scan_many.k M) (l : List UInt8) (hl : l.length ≤ 4611686018427387904) (most : Int) (c : Cur) :
    run M 169 [.c curP, .c (I most)] [(0, curO 0 l c)] = some (.c (I (cmany l most c).1), [(0, curO 0 l (cmany l most c).2)]) := by
  have h1 := impl_scan_num.says h.2 l hl c
  refine run_code (b := impl_scan_many.m) h.1 ⟨0, ?_⟩
  unfold cmany
  generalize cvar l c = r at *
  obtain ⟨n, e, b⟩ := r
  by_cases c1 : most < n
  · simp (maxSteps := 1000000) [exB, impl_scan_many.m, impl_scan_many.b, List.range_succ, bs_get, setAt, h1, c1]
  · cases b <;> simp (maxSteps := 1000000) [exB, impl_scan_many.m, impl_scan_many.b, List.range_succ, bs_get, setAt, h1, c1]
/-- a stamp -/
def cstamp (l : List UInt8) (c : Cur) : (Int × Int) × Cur := (((cvar l c).1, (cvar l (cvar l c).2).1), (cvar l (cvar l c).2).2)
theorem impl_scan_stamp.says (h : impl_scan_stamp.k M) (l : List UInt8) (hl : l.length ≤ 4611686018427387904) (c : Cur) :
    run M 222 [.c curP] [(0, curO 0 l c)] = some (.a [I (cstamp l c).1.1, I (cstamp l c).1.2], [(0, curO 0 l (cstamp l c).2)]) := by
  have h1 := impl_scan_num.says h.2 l hl c
  have h2 := impl_scan_num.says h.2 l hl (cvar l c).2
  refine run_code (b := impl_scan_stamp.m) h.1 ⟨0, ?_⟩
  simp (maxSteps := 1000000) [exB, impl_scan_stamp.m, impl_scan_stamp.b, List.range_succ, bs_get, setAt, h1, h2, cstamp]
/-- n things one behind the other -/
def crep {α : Type} (p : Cur → α × Cur) : Nat → Cur → List α × Cur
  | 0, c => ([], c)
  | n + 1, c => ((p c).1 :: (crep p n (p c).2).1, (crep p n (p c).2).2)
theorem crep_len {α : Type} (p : Cur → α × Cur) : ∀ n c, (crep p n c).1.length = n
  | 0, c => rfl
  | n + 1, c => by simp [crep, crep_len p n]
theorem rep_loop {α β γ : Type} (n : Nat) (p : Cur → α × Cur) {f : St → Option (Out × St)} (S : Nat → List α → Cur → β → St) (e : Nat) (E : List α → Cur → γ → St)
    (h1 : ∀ i, i < n → ∀ acc c x, acc.length = i → ∃ y, f (S i acc c x) = some (.normal, S (i + 1) (acc ++ [(p c).1]) (p c).2 y))
    (h3 : ∀ acc c x, acc.length = n → ∃ y, f (S n acc c x) = some (.exit e, E acc c y)) (c : Cur) :
    ∃ g : β → γ, ∀ x, loopN f (n + 1) (S 0 [] c x) = some (.exit e, E (crep p n c).1 (crep p n c).2 (g x)) := by
  have := loop_all (f := f) (fun s : Nat × List α × Cur => S s.1 s.2.1 s.2.2) (fun s => s.1 ≤ n ∧ s.2.1.length = s.1) (fun s => n - s.1) (fun s => (s.2.1 ++ (crep p (n - s.1) s.2.2).1, (crep p (n - s.1) s.2.2).2)) (fun q m => (.exit e, E q.1 q.2 m)) ?_ (n + 1) (0, [], c) ⟨Nat.zero_le _, rfl⟩ (by simp)
  · simpa using this
  rintro ⟨i, acc, c⟩ x ⟨hi, ha⟩
  simp only at hi ha
  by_cases hlt : i < n
  · left
    obtain ⟨y, hy⟩ := h1 i hlt acc c x ha
    refine ⟨(i + 1, acc ++ [(p c).1], (p c).2), y, hy, ⟨hlt, by simp [ha]⟩, by simp only; omega, ?_⟩
    simp only
    rw [show n - i = (n - (i + 1)) + 1 by omega]
    simp [crep]
  · have : i = n := by omega
    subst this
    right
    obtain ⟨y, hy⟩ := h3 acc c x ha
    exact ⟨y, by simp [hy, crep], by simp⟩
def cnums (l : List UInt8) (most : Int) (c : Cur) : List Int × Cur := crep (cvar l) (cmany l most c).1.toNat (cmany l most c).2
theorem cvar_nn (l : List UInt8) (c : Cur) : 0 ≤ (cvar l c).1 ∧ (cvar l c).1 ≤ 1000000000 := by
  have := (readVar_le l c.1).1
  unfold cvar; split <;> simp <;> omega
theorem cmany_nn (l : List UInt8) (most : Int) (c : Cur) : 0 ≤ (cmany l most c).1 ∧ (cmany l most c).1 ≤ 1000000000 ∧ (0 ≤ most → (cmany l most c).1 ≤ most) := by
  have := cvar_nn l c
  unfold cmany; split
  · simp
  · rename_i h; rw [not_or] at h; omega
def nuS (l : List UInt8) (n : Nat) (i : Nat) (acc : List Int) (c : Cur) (x : Nat × Nat) : St := { t := [(0, .c curP), (5, .c (.row 8 x.1 0 i)), (12, .c (I n)), (13, .c (I i))], o := [(0, curO 0 l c), (8, ⟨x.1, 1, true, false, irow acc⟩)], n := x.2 }
def nuE (l : List UInt8) (n : Nat) (acc : List Int) (c : Cur) (x : Nat × Nat) : St := { t := [(0, .c curP), (5, .c (.row 8 x.1 0 n)), (12, .c (I n)), (13, .c (I n)), (14, .c (.bool false))], o := [(0, curO 0 l c), (8, ⟨x.1, 1, true, false, irow acc⟩)], n := x.2 }
theorem impl_scan_nums.says (h : impl_scan_nums.k M) (l : List UInt8) (hl : l.length ≤ 4611686018427387904) (most : Int) (c : Cur) :
    run M 170 [.c curP, .c (I most)] [(0, curO 0 l c)] = some (.c (.sl true 1 (irow (cnums l most c).1)), [(0, curO 0 l (cnums l most c).2)]) := by
  obtain ⟨h0, k1, k2⟩ := h
  have h1 := impl_scan_many.says k2 l hl most c
  have hn := cmany_nn l most c
  unfold cnums
  generalize cmany l most c = q at *
  obtain ⟨n, c1⟩ := q
  simp only at hn ⊢
  obtain ⟨n, rfl⟩ := Int.eq_ofNat_of_zero_le hn.1
  simp only [Int.toNat_natCast]
  refine run_code (b := impl_scan_nums.m) h0 ⟨n + 1, ?_⟩
  obtain ⟨g, hr⟩ := rep_loop (f := exC (run M) (n + 1) impl_scan_nums.l0) n (cvar l) (nuS l n) 0 (nuE l n)
    (fun i hi acc c x ha => by
      obtain ⟨v, x⟩ := x
      have h2 := impl_scan_num.says k1 l hl c
      have e5 : IntKind.i64.wrap ((i : Int) + 1) = (i : Int) + 1 := wrap_i64 (by omega) (by omega)
      have e6 : i + 1 ≤ 4294967296 := by omega
      have hii : (i : Int) < n := by omega
      simp only [Prod.exists]
      simp (maxSteps := 1000000) [impl_scan_nums.l0, List.range_succ, bs_get, setAt, nuS, hii, h2, e5, e6, ha, irow, List.take_of_length_le])
    (fun acc c x ha => by
      obtain ⟨v, x⟩ := x
      simp only [Prod.exists]
      simp (maxSteps := 1000000) [impl_scan_nums.l0, List.range_succ, bs_get, setAt, nuS, nuE]) c1
  have hlen := crep_len (cvar l) n c1
  simp [nuS, nuE, irow] at hr
  simp (maxSteps := 1000000) [exB, impl_scan_nums.m, impl_scan_nums.b, List.range_succ, bs_get, setAt, h1, hr, hlen, irow, List.take_of_length_le]
theorem wrap_one : IntKind.i64.wrap 1 = 1 := wrap_i64 (by omega) (by omega)
/-! ## mails -/
def creg (l : List UInt8) (c : Cur) : Reg × Cur := (⟨(cvar l c).1, (cstamp l (cvar l c).2).1.1, (cstamp l (cvar l c).2).1.2⟩, (cstamp l (cvar l c).2).2)
def cmail (l : List UInt8) (c : Cur) : Mail × Cur :=
  let g := cvar l c
  let u := cvar l g.2
  let f := crep (creg l) 3 u.2
  let t := cshort l f.2
  (⟨g.1, u.1, f.1, t.1⟩, t.2)
abbrev mzero : List T := [I 0, I 0, .nils 3, .str ⟨#[]⟩]
structure Four where
  a : Nat
  b : Nat
  c : Nat
  d : Nat
theorem Four.ex {p : Four → Prop} : (∃ x, p x) ↔ ∃ a b c d, p ⟨a, b, c, d⟩ := ⟨fun ⟨⟨a, b, c, d⟩, h⟩ => ⟨a, b, c, d, h⟩, fun ⟨a, b, c, d, h⟩ => ⟨⟨a, b, c, d⟩, h⟩⟩
def mlS (l : List UInt8) (g u : Int) (i : Nat) (acc : List Reg) (c : Cur) (x : Four) : St := { t := [(0, .c curP), (2, .c (.ptr 2 x.a 0 0)), (3, .c (.ptr 3 x.b 0 0)), (11, .c (I i))], o := [(0, curO 0 l c), (2, ⟨x.a, 4, true, true, [mzero]⟩), (3, ⟨x.b, 4, true, true, [[I g, I u, if i = 0 then .nils 3 else .row 23 x.c 0 i, .str ⟨#[]⟩]]⟩)] ++ if i = 0 then [] else [(23, ⟨x.c, 3, true, false, acc.map encReg⟩)], n := x.d }
def mlE (l : List UInt8) (g u : Int) (acc : List Reg) (c : Cur) (x : Four) : St := { t := [(0, .c curP), (2, .c (.ptr 2 x.a 0 0)), (3, .c (.ptr 3 x.b 0 0)), (11, .c (I 3)), (12, .c (.bool false))], o := [(0, curO 0 l c), (2, ⟨x.a, 4, true, true, [mzero]⟩), (3, ⟨x.b, 4, true, true, [[I g, I u, .row 23 x.c 0 3, .str ⟨#[]⟩]]⟩), (23, ⟨x.c, 3, true, false, acc.map encReg⟩)], n := x.d }
theorem impl_scan_mail.says (h : impl_scan_mail.k M) (l : List UInt8) (hl : l.length ≤ 4611686018427387904) (c : Cur) :
    run M 223 [.c curP] [(0, curO 0 l c)] = some (.a (encMailO (cmail l c).1), [(0, curO 0 l (cmail l c).2)]) := by
  obtain ⟨h0, k1, k2, k3⟩ := h
  have h1 := impl_scan_num.says k1 l hl c
  have h2 := impl_scan_num.says k1 l hl (cvar l c).2
  refine run_code (b := impl_scan_mail.m) h0 ⟨4, ?_⟩
  obtain ⟨g, hr⟩ := rep_loop (f := exC (run M) 4 impl_scan_mail.l0) 3 (creg l) (mlS l (cvar l c).1 (cvar l (cvar l c).2).1) 0 (mlE l (cvar l c).1 (cvar l (cvar l c).2).1)
    (fun i hi acc c x ha => by
      obtain ⟨v, w, z, x⟩ := x
      have h2 := impl_scan_num.says k1 l hl c
      have h3 := impl_scan_stamp.says k3 l hl (cvar l c).2
      have e5 : IntKind.i64.wrap ((i : Int) + 1) = (i : Int) + 1 := wrap_i64 (by omega) (by omega)
      have hii : (i : Int) < 3 := by omega
      simp only [Four.ex]
      cases i with
      | zero =>
        have : acc = [] := List.eq_nil_of_length_eq_zero ha
        subst this
        simp (maxSteps := 1000000) [impl_scan_mail.l0, List.range_succ, bs_get, setAt, mlS, hii, h2, h3, wrap_one, encReg, creg]
      | succ i =>
        have e6 : i + 1 + 1 ≤ 4294967296 := by omega
        have e7 : (i : Int) + 1 < 3 := by omega
        have e5 : IntKind.i64.wrap ((i : Int) + 1 + 1) = (i : Int) + 1 + 1 := wrap_i64 (by omega) (by omega)
        simp (maxSteps := 1000000) [impl_scan_mail.l0, List.range_succ, bs_get, setAt, mlS, e7, h2, h3, e5, e6, ha, encReg, creg, List.take_of_length_le])
    (fun acc c x ha => by
      obtain ⟨v, w, z, x⟩ := x
      simp only [Four.ex]
      simp (maxSteps := 1000000) [impl_scan_mail.l0, List.range_succ, bs_get, setAt, mlS, mlE]) (cvar l (cvar l c).2).2
  have hlen := crep_len (creg l) 3 (cvar l (cvar l c).2).2
  have h4 := impl_scan_short.says k2 l hl (crep (creg l) 3 (cvar l (cvar l c).2).2).2
  simp only [cmail]
  generalize crep (creg l) 3 (cvar l (cvar l c).2).2 = q at *
  replace hr := fun a b d => hr ⟨a, b, 0, d⟩
  simp [mlS, mlE] at hr
  simp (maxSteps := 1000000) [exB, impl_scan_mail.m, impl_scan_mail.b, List.range_succ, bs_get, setAt, h1, h2, h4, hr, hlen, List.take_of_length_le]
end Mx

/-
  What is read of boxes.
-/
namespace Mx
open Go
variable {M : Nat → Option Body}
def cboxH (l : List UInt8) (c : Cur) : Box × Cur :=
  let g := cvar l c
  let nm := cshort l g.2
  let st := cstamp l nm.2
  let nx := cvar l st.2
  (⟨g.1, nm.1, st.1.1, st.1.2, nx.1, [], []⟩, nx.2)
/-- what a box's text says, right or not -/
def cbox (l : List UInt8) (c : Cur) : Box × Cur :=
  let h := cboxH l c
  let k := cmany l 10 h.2
  let ms := crep (cmail l) k.1.toNat k.2
  let go := cnums l 40 ms.2
  ({ h.1 with mails := ms.1, gone := go.1 }, go.2)
abbrev bzero : List T := [I 0, .str ⟨#[]⟩, I 0, I 0, I 0, .nils 4, .nils 1]
def bxO (b : Box) (i : Nat) (acc : List Mail) (x : Four) : List (Nat × Ob) := [(2, ⟨x.a, 7, true, true, [bzero]⟩), (3, ⟨x.b, 7, true, true, [[I b.gid, S b.name, I b.time, I b.who, I b.next, if i = 0 then .nils 4 else .row 29 x.c 0 i, .nils 1]]⟩)] ++ if i = 0 then [] else [(29, ⟨x.c, 4, true, false, acc.map encMail⟩)]
def bxcS (l : List UInt8) (b : Box) (n i : Nat) (acc : List Mail) (c : Cur) (x : Four) : St := { t := [(0, .c curP), (2, .c (.ptr 2 x.a 0 0)), (3, .c (.ptr 3 x.b 0 0)), (20, .c (I n)), (21, .c (I i))], o := (0, curO 0 l c) :: bxO b i acc x, n := x.d }
def bxcE (l : List UInt8) (b : Box) (n : Nat) (acc : List Mail) (c : Cur) (x : Four) : St := { t := [(0, .c curP), (2, .c (.ptr 2 x.a 0 0)), (3, .c (.ptr 3 x.b 0 0)), (20, .c (I n)), (21, .c (I n)), (22, .c (.bool false))], o := (0, curO 0 l c) :: bxO b n acc x, n := x.d }
theorem impl_scan_box.says (h : impl_scan_box.k M) (l : List UInt8) (hl : l.length ≤ 4611686018427387904) (c : Cur) :
    run M 143 [.c curP] [(0, curO 0 l c)] = some (.a (encBoxO (cbox l c).1), [(0, curO 0 l (cbox l c).2)]) := by
  obtain ⟨h0, k1, k2, k3, k4, k5, k6⟩ := h
  have h1 := impl_scan_num.says k1 l hl c
  have h2 := impl_scan_short.says k2 l hl (cvar l c).2
  have h3 := impl_scan_stamp.says k5 l hl (cshort l (cvar l c).2).2
  have h4 := impl_scan_num.says k1 l hl (cstamp l (cshort l (cvar l c).2).2).2
  simp only [cbox]
  have e0 : cboxH l c = (⟨(cvar l c).1, (cshort l (cvar l c).2).1, (cstamp l (cshort l (cvar l c).2).2).1.1, (cstamp l (cshort l (cvar l c).2).2).1.2, (cvar l (cstamp l (cshort l (cvar l c).2).2).2).1, [], []⟩, (cvar l (cstamp l (cshort l (cvar l c).2).2).2).2) := rfl
  rw [e0]
  generalize cvar l c = q1 at *
  generalize cshort l q1.2 = q2 at *
  generalize cstamp l q2.2 = q3 at *
  generalize cvar l q3.2 = q4 at *
  have h5 := impl_scan_many.says k3 l hl 10 q4.2
  have hn := cmany_nn l 10 q4.2
  simp only
  generalize cmany l 10 q4.2 = q5 at *
  obtain ⟨n, c1⟩ := q5
  simp only at hn ⊢
  obtain ⟨n, rfl⟩ := Int.eq_ofNat_of_zero_le hn.1
  simp only [Int.toNat_natCast]
  refine run_code (b := impl_scan_box.m) h0 ⟨n + 1, ?_⟩
  obtain ⟨g, hr⟩ := rep_loop (f := exC (run M) (n + 1) impl_scan_box.l0) n (cmail l) (bxcS l ⟨q1.1, q2.1, q3.1.1, q3.1.2, q4.1, [], []⟩ n) 0 (bxcE l ⟨q1.1, q2.1, q3.1.1, q3.1.2, q4.1, [], []⟩ n)
    (fun i hi acc c x ha => by
      obtain ⟨v, w, z, x⟩ := x
      have h2 := impl_scan_mail.says k6 l hl c
      simp only [Four.ex]
      cases i with
      | zero =>
        have : acc = [] := List.eq_nil_of_length_eq_zero ha
        subst this
        simp (maxSteps := 1000000) [impl_scan_box.l0, List.range_succ, bs_get, setAt, bxcS, bxO, hi, h2, wrap_one, encMailO, encMail]
      | succ i =>
        have e5 : IntKind.i64.wrap ((i : Int) + 1 + 1) = (i : Int) + 1 + 1 := wrap_i64 (by omega) (by omega)
        have e6 : i + 1 + 1 ≤ 4294967296 := by omega
        have e7 : (i : Int) + 1 < n := by omega
        simp (maxSteps := 1000000) [impl_scan_box.l0, List.range_succ, bs_get, setAt, bxcS, bxO, e7, h2, e5, e6, ha, encMailO, encMail, List.take_of_length_le])
    (fun acc c x ha => by
      obtain ⟨v, w, z, x⟩ := x
      simp only [Four.ex]
      by_cases hz : n = 0
      · subst hz
        simp (maxSteps := 1000000) [impl_scan_box.l0, List.range_succ, bs_get, setAt, bxcS, bxcE, bxO]
      · simp (maxSteps := 1000000) [impl_scan_box.l0, List.range_succ, bs_get, setAt, bxcS, bxcE, bxO, hz]) c1
  have hlen := crep_len (cmail l) n c1
  have h6 := impl_scan_nums.says k4 l hl 40 (crep (cmail l) n c1).2
  generalize crep (cmail l) n c1 = q at *
  generalize cnums l 40 q.2 = q6 at *
  replace hr := fun a b d => hr ⟨a, b, 0, d⟩
  by_cases hz : n = 0
  · subst hz
    have hq : q.1 = [] := List.eq_nil_of_length_eq_zero hlen
    simp [bxcS, bxcE, bxO] at hr
    simp (maxSteps := 1000000) [exB, impl_scan_box.m, impl_scan_box.b, List.range_succ, bs_get, setAt, h1, h2, h3, h4, h5, h6, hr, hlen, hq, List.take_of_length_le]
  · simp [bxcS, bxcE, bxO, hz] at hr
    simp (maxSteps := 1000000) [exB, impl_scan_box.m, impl_scan_box.b, List.range_succ, bs_get, setAt, h1, h2, h3, h4, h5, h6, hr, hlen, List.take_of_length_le]
end Mx

/-
  What the other side reads of lists of numbers, mails, boxes: the same.
-/
namespace Mx
open Go
variable {M : Nat → Option Body}
/-! ## what is read is what stands there -/
def Spans (l : List UInt8) (c c' : Cur) (t : List UInt8) : Prop := c'.2 = false → c.2 = false ∧ c.1 ≤ c'.1 ∧ (t = [] ∧ c'.1 = c.1 ∨ 0 ≤ c.1 ∧ c'.1 ≤ l.length ∧ (l.take c'.1.toNat).drop c.1.toNat = t)
theorem Spans.refl (l : List UInt8) (c : Cur) : Spans l c c [] := fun h => ⟨h, Int.le_refl _, .inl ⟨rfl, rfl⟩⟩
theorem take_drop_join (l : List UInt8) {m e f : Nat} (h : m ≤ e) (k : e ≤ f) : (l.take e).drop m ++ (l.take f).drop e = (l.take f).drop m := by
  have h1 : (l.take f).take e = l.take e := by rw [List.take_take, Nat.min_eq_left k]
  rw [← h1]
  generalize l.take f = x
  rw [← List.take_append_drop e (x.drop m)]
  by_cases he : e ≤ x.length
  · have : (x.drop m) = (x.take e).drop m ++ x.drop e := by
      conv => lhs; rw [← List.take_append_drop e x]
      rw [List.drop_append_of_le_length (by simp; omega)]
    rw [List.take_append_drop, this]
  · rw [List.take_append_drop, List.take_of_length_le (by omega), List.drop_eq_nil_of_le (by omega : x.length ≤ e), List.append_nil]
theorem Spans.trans {l : List UInt8} {c d e : Cur} {t u : List UInt8} (h : Spans l c d t) (k : Spans l d e u) : Spans l c e (t ++ u) := by
  intro he
  obtain ⟨hd, k1, k2⟩ := k he
  obtain ⟨hc, h1, h2⟩ := h hd
  refine ⟨hc, by omega, ?_⟩
  rcases h2 with ⟨rfl, h2⟩ | ⟨h2, h3, h4⟩
  · rcases k2 with ⟨rfl, k2⟩ | ⟨k2, k3, k4⟩
    · exact .inl ⟨rfl, by omega⟩
    · right; rw [h2] at k4 k2; exact ⟨k2, k3, by simpa using k4⟩
  · right
    rcases k2 with ⟨rfl, k2⟩ | ⟨k2, k3, k4⟩
    · rw [k2]; exact ⟨h2, h3, by simpa using h4⟩
    · refine ⟨h2, k3, ?_⟩
      rw [← h4, ← k4, take_drop_join l (by omega) (by omega)]
theorem Spans.bad {l : List UInt8} {c d : Cur} {t : List UInt8} (h : Spans l c d t) (hc : c.2 = true) : d.2 = true := by
  cases hd : d.2 with
  | true => rfl
  | false => rw [(h hd).1] at hc; cases hc
theorem readVar_text (l : List UInt8) (a : Int) (h : (readVar l a).2.2 = true) : 0 ≤ a ∧ (l.take (readVar l a).2.1).drop a.toNat = varT (readVar l a).1 := by
  obtain ⟨h1, h2, h3⟩ := readVar_le l a
  have h4 := h3 h
  refine ⟨h4.1, ?_⟩
  unfold readVar at h ⊢
  split at h
  · rename_i hr
    rw [if_pos hr]
    cases hg : rvGo l a.toNat 5 0 0 with
    | none => rw [hg] at h; cases h
    | some r =>
      rw [hg] at h
      simp only [Option.getD_some] at h ⊢
      obtain ⟨q1, q2, q3⟩ := rvGo_text l a.toNat 5 0 0 r hg h
      rw [q3, List.drop_take]
  · cases h
theorem cvar_spans (l : List UInt8) (c : Cur) : Spans l c (cvar l c).2 (varI (cvar l c).1) := by
  intro h
  unfold cvar at h ⊢
  split at h
  · cases h
  · rename_i hn
    rw [if_neg hn]
    rw [not_or] at hn
    have h1 : (readVar l c.1).2.2 = true := by simpa using hn.2
    obtain ⟨h2, h3, h4⟩ := readVar_le l c.1
    have h5 := h4 h1
    obtain ⟨h6, h7⟩ := readVar_text l c.1 h1
    refine ⟨by simpa using hn.1, by simp only; omega, .inr ⟨h6, by simp only; omega, ?_⟩⟩
    simp only [varI, Int.toNat_natCast]
    exact h7
theorem cshort_spans (l : List UInt8) (c : Cur) : Spans l c (cshort l c).2 (shortT (cshort l c).1) := by
  intro h
  unfold cshort at h ⊢
  split at h
  · cases h
  · rename_i hn
    rw [if_neg hn]
    rw [not_or] at hn
    have h1 : (readShort l c.1).2.2 = true := by simpa using hn.2
    obtain ⟨m, h2, h3, h4, h5, h6⟩ := readShort_ok l c.1 h1
    refine ⟨by simpa using hn.1, by simp only; omega, .inr ⟨by omega, by simp only; omega, ?_⟩⟩
    have h7 : c.1.toNat = m := by omega
    simp only [h7, Int.toNat_natCast]
    exact h5
theorem cstamp_spans (l : List UInt8) (c : Cur) : Spans l c (cstamp l c).2 (varI (cstamp l c).1.1 ++ varI (cstamp l c).1.2) := (cvar_spans l c).trans (cvar_spans l _)
theorem cmany_spans (l : List UInt8) (most : Int) (c : Cur) : Spans l c (cmany l most c).2 (varI (cmany l most c).1) := by
  intro h
  unfold cmany at h ⊢
  split at h
  · cases h
  · rename_i hn; rw [if_neg hn]; exact cvar_spans l c h
theorem crep_spans {α : Type} {l : List UInt8} {p : Cur → α × Cur} {t : α → List UInt8} (hp : ∀ c, Spans l c (p c).2 (t (p c).1)) : ∀ n c, Spans l c (crep p n c).2 (texts t (crep p n c).1)
  | 0, c => Spans.refl l c
  | n + 1, c => by
    have := (hp c).trans (crep_spans hp n (p c).2)
    simpa [crep, texts] using this
theorem cnums_spans (l : List UInt8) (most : Int) (c : Cur) : Spans l c (cnums l most c).2 (varT (cnums l most c).1.length ++ texts varI (cnums l most c).1) := by
  have h := (cmany_spans l most c).trans (crep_spans (cvar_spans l) (cmany l most c).1.toNat (cmany l most c).2)
  have hn := cmany_nn l most c
  unfold cnums
  rw [crep_len]
  exact h
theorem creg_spans (l : List UInt8) (c : Cur) : Spans l c (creg l c).2 (regT (creg l c).1) := by
  have := (cvar_spans l c).trans (cstamp_spans l (cvar l c).2)
  simpa [creg, regT, texts] using this
theorem cmail_spans (l : List UInt8) (c : Cur) : Spans l c (cmail l c).2 (mailT (cmail l c).1) := by
  have h1 := ((cvar_spans l c).trans (cvar_spans l (cvar l c).2)).trans (crep_spans (creg_spans l) 3 (cvar l (cvar l c).2).2)
  have := h1.trans (cshort_spans l _)
  simp only [cmail, mailT]
  simpa [texts] using this
theorem cboxH_spans (l : List UInt8) (c : Cur) : Spans l c (cboxH l c).2 (varI (cboxH l c).1.gid ++ (shortT (cboxH l c).1.name ++ (varI (cboxH l c).1.time ++ (varI (cboxH l c).1.who ++ varI (cboxH l c).1.next)))) := by
  have h1 := (((cvar_spans l c).trans (cshort_spans l _)).trans (cstamp_spans l _)).trans (cvar_spans l (cstamp l (cshort l (cvar l c).2).2).2)
  simpa [cboxH] using h1
theorem cbox_spans (l : List UInt8) (c : Cur) : Spans l c (cbox l c).2 (boxT (cbox l c).1) := by
  have h1 := ((cboxH_spans l c).trans (cmany_spans l 10 _)).trans ((crep_spans (cmail_spans l) (cmany l 10 (cboxH l c).2).1.toNat (cmany l 10 (cboxH l c).2).2).trans (cnums_spans l 40 _))
  have hn := crep_len (cmail l) (cmany l 10 (cboxH l c).2).1.toNat (cmany l 10 (cboxH l c).2).2
  simp only [boxT, boxP, cbox, hn]
  simpa [shortT, varI] using h1
/-! ## as long as nothing was bad -/
def cupto {α : Type} (p : Cur → α × Cur) : Nat → Cur → List α × Cur
  | 0, c => ([], c)
  | n + 1, c => if c.2 = true then ([], c) else ((p c).1 :: (cupto p n (p c).2).1, (cupto p n (p c).2).2)
theorem crep_bad {α : Type} {p : Cur → α × Cur} (hp : ∀ c, c.2 = true → (p c).2.2 = true) : ∀ n c, c.2 = true → (crep p n c).2.2 = true
  | 0, c, h => h
  | n + 1, c, h => crep_bad hp n _ (hp c h)
theorem cupto_rep {α : Type} {p : Cur → α × Cur} (hp : ∀ c, c.2 = true → (p c).2.2 = true) : ∀ n c, cupto p n c = crep p n c ∨ (cupto p n c).2.2 = true ∧ (crep p n c).2.2 = true
  | 0, c => .inl rfl
  | n + 1, c => by
    simp only [cupto]
    split
    · rename_i h; exact .inr ⟨h, crep_bad hp (n + 1) c h⟩
    · rcases cupto_rep hp n (p c).2 with h | h
      · left; rw [h]; rfl
      · exact .inr h
theorem cupto_bad {α : Type} {p : Cur → α × Cur} (n : Nat) (c : Cur) (h : c.2 = true) : cupto p n c = ([], c) := by
  cases n with
  | zero => rfl
  | succ n => simp [cupto, h]
theorem cupto_len {α : Type} {p : Cur → α × Cur} (hp : ∀ c, c.2 = true → (p c).2.2 = true) : ∀ n c, (cupto p n c).2.2 = false → (cupto p n c).1.length = n := by
  intro n c h
  rcases cupto_rep hp n c with q | q
  · rw [q, crep_len]
  · rw [q.1] at h; cases h
theorem upto_loop {α β γ : Type} (n : Nat) (p : Cur → α × Cur) {f : St → Option (Out × St)} (S : Nat → List α → Cur → β → St) (e : Nat) (E : List α → Cur → γ → St)
    (h1 : ∀ i, i < n → ∀ acc c x, acc.length = i → c.2 = false → ∃ y, f (S i acc c x) = some (.normal, S (i + 1) (acc ++ [(p c).1]) (p c).2 y))
    (h2 : ∀ i, i < n → ∀ acc c x, acc.length = i → c.2 = true → ∃ y, f (S i acc c x) = some (.exit e, E acc c y))
    (h3 : ∀ acc c x, acc.length = n → ∃ y, f (S n acc c x) = some (.exit e, E acc c y)) (c : Cur) :
    ∃ g : β → γ, ∀ x, loopN f (n + 1) (S 0 [] c x) = some (.exit e, E (cupto p n c).1 (cupto p n c).2 (g x)) := by
  have := loop_all (f := f) (fun s : Nat × List α × Cur => S s.1 s.2.1 s.2.2) (fun s => s.1 ≤ n ∧ s.2.1.length = s.1) (fun s => n - s.1) (fun s => (s.2.1 ++ (cupto p (n - s.1) s.2.2).1, (cupto p (n - s.1) s.2.2).2)) (fun q m => (.exit e, E q.1 q.2 m)) ?_ (n + 1) (0, [], c) ⟨Nat.zero_le _, rfl⟩ (by simp)
  · simpa using this
  rintro ⟨i, acc, c⟩ x ⟨hi, ha⟩
  simp only at hi ha
  by_cases hlt : i < n
  · cases hc : c.2
    · left
      obtain ⟨y, hy⟩ := h1 i hlt acc c x ha hc
      refine ⟨(i + 1, acc ++ [(p c).1], (p c).2), y, hy, ⟨hlt, by simp [ha]⟩, by simp only; omega, ?_⟩
      simp only
      rw [show n - i = (n - (i + 1)) + 1 by omega]
      simp [cupto, hc]
    · right
      obtain ⟨y, hy⟩ := h2 i hlt acc c x ha hc
      exact ⟨y, by simp [hy, cupto_bad _ _ hc], by simp⟩
  · have : i = n := by omega
    subst this
    right
    obtain ⟨y, hy⟩ := h3 acc c x ha
    exact ⟨y, by simp [hy, cupto], by simp⟩
def cints (l : List UInt8) (most : Nat) (c : Cur) : List Int × Cur := cupto (cvar l) (Min.min (cvar l c).1.toNat (most + 1)) (cvar l c).2
def inS (l : List UInt8) (most n : Nat) (i : Nat) (acc : List Int) (c : Cur) (x : Nat × Nat) : St := { t := [(0, .c curP), (1, .c (I most)), (5, .c (I n)), (6, .c (.row 10 x.1 0 i)), (7, .c (I i))], o := [(0, curO 0 l c), (10, ⟨x.1, 1, true, false, irow acc⟩)], n := x.2 }
def inE (l : List UInt8) (most n : Nat) (acc : List Int) (c : Cur) (x : Nat × Nat) : St := { t := [(0, .c curP), (1, .c (I most)), (5, .c (I n)), (6, .c (.row 10 x.1 0 acc.length)), (7, .c (I acc.length)), (25, .c (.bool false))], o := [(0, curO 0 l c), (10, ⟨x.1, 1, true, false, irow acc⟩)], n := x.2 }
theorem spec_l10Ints.says (h : spec_l10Ints.k M) (l : List UInt8) (hl : l.length ≤ 4611686018427387904) (most : Nat) (hm : most ≤ 1000) (c : Cur) :
    run M 142 [.c curP, .c (I most)] [(0, curO 0 l c)] = some (.c (.sl true 1 (irow (cints l most c).1)), [(0, curO 0 l (cints l most c).2)]) := by
  obtain ⟨h0, k1⟩ := h
  have h1 := spec_l05Var.says k1 l hl c
  have hn := cvar_nn l c
  unfold cints
  generalize cvar l c = q at *
  obtain ⟨n, c1⟩ := q
  simp only at hn ⊢
  obtain ⟨n, rfl⟩ := Int.eq_ofNat_of_zero_le hn.1
  simp only [Int.toNat_natCast]
  generalize hd : Min.min n (most + 1) = d
  have hd1 : d ≤ n := by omega
  have hd2 : d ≤ most + 1 := by omega
  have hd3 : d = n ∨ d = most + 1 := by omega
  refine run_code (b := spec_l10Ints.m) h0 ⟨d + 1, ?_⟩
  obtain ⟨g, hr⟩ := upto_loop (f := exC (run M) (d + 1) spec_l10Ints.l0) d (cvar l) (inS l most n) 0 (inE l most n)
    (fun i hi acc c x ha hc => by
      obtain ⟨v, x⟩ := x
      have h2 := spec_l05Var.says k1 l hl c
      have e5 : IntKind.i64.wrap ((i : Int) + 1) = (i : Int) + 1 := wrap_i64 (by omega) (by omega)
      have e6 : i + 1 ≤ 4294967296 := by omega
      have h3 : (i : Int) < n := by omega
      have h4 : (i : Int) ≤ most := by omega
      have h4' : i ≤ most := by omega
      have h3' : i < n := by omega
      obtain ⟨ca, cb⟩ := c
      simp only at hc
      subst hc
      simp only [Prod.exists]
      simp (maxSteps := 1000000) [spec_l10Ints.l0, List.range_succ, bs_get, setAt, inS, h3, h4, h3', h4', h2, e5, e6, ha, irow, List.take_of_length_le])
    (fun i hi acc c x ha hc => by
      obtain ⟨v, x⟩ := x
      have h3 : i < n := by omega
      have h4 : i ≤ most := by omega
      obtain ⟨ca, cb⟩ := c
      simp only at hc
      subst hc
      simp only [Prod.exists]
      simp (maxSteps := 1000000) [spec_l10Ints.l0, List.range_succ, bs_get, setAt, inS, inE, h3, h4, ha])
    (fun acc c x ha => by
      obtain ⟨v, x⟩ := x
      simp only [Prod.exists]
      rcases hd3 with h3 | h3
      · have h4 : ¬ d < n := by omega
        simp (maxSteps := 1000000) [spec_l10Ints.l0, List.range_succ, bs_get, setAt, inS, inE, h4, ha]
      · have h4 : ¬ d ≤ most := by omega
        by_cases h5 : d < n
        · simp (maxSteps := 1000000) [spec_l10Ints.l0, List.range_succ, bs_get, setAt, inS, inE, h4, h5, ha]
        · simp (maxSteps := 1000000) [spec_l10Ints.l0, List.range_succ, bs_get, setAt, inS, inE, h4, h5, ha]) c1
  have hlen : (cupto (cvar l) d c1).1.length ≤ (cupto (cvar l) d c1).1.length := Nat.le_refl _
  simp [inS, inE, irow] at hr
  simp (maxSteps := 1000000) [exB, spec_l10Ints.m, spec_l10Ints.b, List.range_succ, bs_get, setAt, h1, hr, irow, List.take_of_length_le]
end Mx

/-
  The other side's mails and boxes.
-/
namespace Mx
open Go
variable {M : Nat → Option Body}
theorem spec_l05Var.at (h : spec_l05Var.k M) (l : List UInt8) (hl : l.length ≤ 4611686018427387904) (a : Int) (b : Bool) :
    run M 139 [.c curP] [(0, ⟨0, 3, true, true, [[S l, I a, .bool b]]⟩)] = some (.c (I (cvar l (a, b)).1), [(0, curO 0 l (cvar l (a, b)).2)]) := spec_l05Var.says h l hl (a, b)
theorem impl_scan_num.at (h : impl_scan_num.k M) (l : List UInt8) (hl : l.length ≤ 4611686018427387904) (a : Int) (b : Bool) :
    run M 152 [.c curP] [(0, ⟨0, 3, true, true, [[S l, I a, .bool b]]⟩)] = some (.c (I (cvar l (a, b)).1), [(0, curO 0 l (cvar l (a, b)).2)]) := impl_scan_num.says h l hl (a, b)
def mail0 : Mail := ⟨0, 0, [], []⟩
def readMail (l : List UInt8) (a : Int) : Mail × Int × Bool := if (cmail l (a, false)).2.2 = false ∧ mailOk (cmail l (a, false)).1 = true then ((cmail l (a, false)).1, (cmail l (a, false)).2.1, true) else (mail0, 0, false)
def rmS (l : List UInt8) (g u : Int) (i : Nat) (acc : List Reg) (c : Cur) (x : Four) : St := { t := [(4, .c (.ptr 4 x.a 0 0)), (7, .c (.ptr 14 2000096 0 0)), (8, .c (.ptr 8 x.b 0 0)), (9, .c (I i))], o := [(4, ⟨x.a, 4, true, true, [mzero]⟩), (8, ⟨x.b, 4, true, true, [[I g, I u, if i = 0 then .nils 3 else .row 40 x.c 0 i, .str ⟨#[]⟩]]⟩), (14, curO 2000096 l c)] ++ if i = 0 then [] else [(40, ⟨x.c, 3, true, false, acc.map encReg⟩)], n := x.d }
def rmE (l : List UInt8) (g u : Int) (acc : List Reg) (c : Cur) (x : Four) : St := { t := [(4, .c (.ptr 4 x.a 0 0)), (7, .c (.ptr 14 2000096 0 0)), (8, .c (.ptr 8 x.b 0 0)), (9, .c (I 3)), (22, .c (.bool false))], o := [(4, ⟨x.a, 4, true, true, [mzero]⟩), (8, ⟨x.b, 4, true, true, [[I g, I u, .row 40 x.c 0 3, .str ⟨#[]⟩]]⟩), (14, curO 2000096 l c), (40, ⟨x.c, 3, true, false, acc.map encReg⟩)], n := x.d }
theorem spec_ReadMail.says (h : spec_ReadMail.k M) (l : List UInt8) (hl : l.length ≤ 4611686018427387904) (a : Int) :
    run M 141 [.c (S l), .c (I a)] [] = some (.tup [.a (encMailO (readMail l a).1), .c (I (readMail l a).2.1), .c (.bool (readMail l a).2.2)], []) := by
  obtain ⟨h0, k1, k2, k3⟩ := h
  have h1 := spec_l05Var.at k1 l hl a false
  have h2 := spec_l05Var.says k1 l hl (cvar l (a, false)).2
  refine run_code (b := spec_ReadMail.m) h0 ⟨4, ?_⟩
  obtain ⟨g, hr⟩ := rep_loop (f := exC (run M) 4 spec_ReadMail.l0) 3 (creg l) (rmS l (cvar l (a, false)).1 (cvar l (cvar l (a, false)).2).1) 0 (rmE l (cvar l (a, false)).1 (cvar l (cvar l (a, false)).2).1)
    (fun i hi acc c x ha => by
      obtain ⟨v, w, z, x⟩ := x
      have h2 := spec_l05Var.says k1 l hl c
      have h3 := spec_l05Var.says k1 l hl (cvar l c).2
      have h4 := spec_l05Var.says k1 l hl (cvar l (cvar l c).2).2
      simp only [Four.ex]
      cases i with
      | zero =>
        have : acc = [] := List.eq_nil_of_length_eq_zero ha
        subst this
        simp (maxSteps := 1000000) [spec_ReadMail.l0, List.range_succ, bs_get, setAt, rmS, h2, h3, h4, wrap_one, encReg, creg, cstamp]
      | succ i =>
        have e5 : IntKind.i64.wrap ((i : Int) + 1 + 1) = (i : Int) + 1 + 1 := wrap_i64 (by omega) (by omega)
        have e6 : i + 1 + 1 ≤ 4294967296 := by omega
        have e7 : (i : Int) + 1 < 3 := by omega
        simp (maxSteps := 1000000) [spec_ReadMail.l0, List.range_succ, bs_get, setAt, rmS, e7, h2, h3, h4, e5, e6, ha, encReg, creg, cstamp, List.take_of_length_le])
    (fun acc c x ha => by
      obtain ⟨v, w, z, x⟩ := x
      simp only [Four.ex]
      simp (maxSteps := 1000000) [spec_ReadMail.l0, List.range_succ, bs_get, setAt, rmS, rmE]) (cvar l (cvar l (a, false)).2).2
  have hlen := crep_len (creg l) 3 (cvar l (cvar l (a, false)).2).2
  have h4 := spec_l05Short.says k2 l hl (crep (creg l) 3 (cvar l (cvar l (a, false)).2).2).2
  have h5 := spec_MailOk.says k3 (cmail l (a, false)).1 (by simp [cmail, crep_len])
  obtain ⟨q, hq⟩ : ∃ q, crep (creg l) 3 (cvar l (cvar l (a, false)).2).2 = q := ⟨_, rfl⟩
  have e : cmail l (a, false) = (⟨(cvar l (a, false)).1, (cvar l (cvar l (a, false)).2).1, q.1, (cshort l q.2).1⟩, (cshort l q.2).2) := by rw [← hq]; rfl
  rw [hq] at hr hlen h4
  rw [e] at h5
  unfold readMail
  rw [e]
  replace hr := fun a b d => hr ⟨a, b, 0, d⟩
  simp [rmS, rmE] at hr
  simp only [encMail] at h5
  generalize cshort l q.2 = r at *
  cases c1 : r.2.2
  · generalize mailOk _ = ok at *
    cases ok <;> simp (maxSteps := 1000000) [exB, spec_ReadMail.m, spec_ReadMail.b, List.range_succ, bs_get, setAt, h1, h2, h4, h5, hr, hlen, c1, mail0, List.take_of_length_le]
  · simp (maxSteps := 1000000) [exB, spec_ReadMail.m, spec_ReadMail.b, List.range_succ, bs_get, setAt, h1, h2, h4, hr, hlen, c1, mail0, List.take_of_length_le]
end Mx

/-
  The other side's boxes.
-/
namespace Mx
open Go
variable {M : Nat → Option Body}
/-- mails, as long as each is right -/
def cmok (l : List UInt8) : Nat → Cur → Option (List Mail × Cur)
  | 0, c => some ([], c)
  | d + 1, c => if (cmail l c).2.2 = false ∧ mailOk (cmail l c).1 = true then (cmok l d (cmail l c).2).map fun r => ((cmail l c).1 :: r.1, r.2) else none
def box0 : Box := ⟨0, [], 0, 0, 0, [], []⟩
def readBox (l : List UInt8) (a : Int) : Box × Int × Bool := if (cbox l (a, false)).2.2 = false ∧ boxOk (cbox l (a, false)).1 = true then ((cbox l (a, false)).1, (cbox l (a, false)).2.1, true) else (box0, 0, false)
/-- what this side reads, right or not -/
def sbox (l : List UInt8) (c : Cur) : Option (Box × Cur) :=
  let h := cboxH l c
  let k := cvar l h.2
  (cmok l (Min.min k.1.toNat 11) k.2).map fun ms => ({ h.1 with mails := ms.1, gone := (cints l 40 ms.2).1 }, (cints l 40 ms.2).2)
theorem cmail_bad (l : List UInt8) (c : Cur) (h : c.2 = true) : (cmail l c).2.2 = true := (cmail_spans l c).bad h
theorem cvar_bad2 (l : List UInt8) (c : Cur) (h : c.2 = true) : (cvar l c).2.2 = true := (cvar_spans l c).bad h
theorem cmok_some {l : List UInt8} : ∀ {d : Nat} {c : Cur} {r : List Mail × Cur}, cmok l d c = some r → crep (cmail l) d c = r ∧ (∀ m ∈ r.1, mailOk m = true) ∧ (c.2 = false → r.2.2 = false) ∧ r.1.length = d
  | 0, c, r, h => by simp [cmok] at h; subst h; simp [crep]
  | d + 1, c, r, h => by
    simp only [cmok] at h
    split at h
    · rename_i hc
      simp only [Option.map_eq_some_iff] at h
      obtain ⟨q, hq, rfl⟩ := h
      obtain ⟨h1, h2, h3, h4⟩ := cmok_some hq
      refine ⟨by simp [crep, h1], ?_, fun _ => h3 hc.1, by simp [h4]⟩
      intro m hm
      rcases List.mem_cons.1 hm with rfl | hm
      · exact hc.2
      · exact h2 m hm
    · cases h
theorem cmok_none {l : List UInt8} : ∀ {d : Nat} {c : Cur}, cmok l d c = none → (crep (cmail l) d c).2.2 = true ∨ ∃ m ∈ (crep (cmail l) d c).1, mailOk m = false
  | 0, c, h => by simp [cmok] at h
  | d + 1, c, h => by
    simp only [cmok] at h
    split at h
    · rename_i hc
      simp only [Option.map_eq_none_iff] at h
      rcases cmok_none h with h1 | ⟨m, h1, h2⟩
      · exact .inl h1
      · exact .inr ⟨m, List.mem_cons_of_mem _ h1, h2⟩
    · rename_i hc
      cases h1 : (cmail l c).2.2
      · right
        refine ⟨_, List.mem_cons_self .., ?_⟩
        cases h2 : mailOk (cmail l c).1
        · rfl
        · exact (hc ⟨h1, h2⟩).elim
      · left; exact crep_bad (cmail_bad l) d _ h1
theorem boxOk_not {b : Box} (h : (10 < b.mails.length ∨ 40 < b.gone.length) ∨ ∃ m ∈ b.mails, mailOk m = false) : boxOk b = false := by
  cases hb : boxOk b
  · rfl
  · obtain ⟨h1, h2, h3, h4, h5, h6, h7, h8, h9⟩ := boxOk_vars hb
    rcases h with (h | h) | ⟨m, hm, h⟩
    · omega
    · omega
    · rw [h9 m hm] at h; cases h
theorem cnums_bad (l : List UInt8) (most : Int) (c : Cur) (h : c.2 = true) : (cnums l most c).2.2 = true := (cnums_spans l most c).bad h
/-- lists of numbers: this side's and the other's -/
theorem cints_nums (l : List UInt8) (most : Nat) (c : Cur) : ((cints l most c).2.2 = true ∨ most < (cints l most c).1.length) ∧ (cnums l most c).2.2 = true ∨ cints l most c = cnums l most c := by
  have hn := cvar_nn l c
  unfold cints cnums cmany
  by_cases h1 : (cvar l c).2.2 = true
  · left
    rw [if_pos (.inr h1)]
    simp only [Int.toNat_zero, crep, and_true]
    left; rw [cupto_bad _ _ h1]; exact h1
  · by_cases h2 : (most : Int) < (cvar l c).1
    · left
      rw [if_pos (.inl h2)]
      simp only [Int.toNat_zero, crep, and_true]
      rw [show Min.min (cvar l c).1.toNat (most + 1) = most + 1 by omega]
      cases h3 : (cupto (cvar l) (most + 1) (cvar l c).2).2.2
      · right; rw [cupto_len (cvar_bad2 l) _ _ h3]; omega
      · exact .inl rfl
    · rw [if_neg (by rw [not_or]; exact ⟨h2, h1⟩)]
      rw [show Min.min (cvar l c).1.toNat (most + 1) = (cvar l c).1.toNat by omega]
      rcases cupto_rep (cvar_bad2 l) (cvar l c).1.toNat (cvar l c).2 with h | h
      · exact .inr h
      · exact .inl ⟨.inl h.1, h.2⟩
theorem sbox_key {l : List UInt8} {c : Cur} {r : Box × Cur} (hr : sbox l c = some r) : cbox l c = r ∨ (r.2.2 = true ∨ boxOk r.1 = false) ∧ (cbox l c).2.2 = true := by
  have hn := cvar_nn l (cboxH l c).2
  simp only [sbox, Option.map_eq_some_iff] at hr
  obtain ⟨ms, hms, rfl⟩ := hr
  obtain ⟨h1, h2, h3, h4⟩ := cmok_some hms
  simp only [cbox, cmany]
  by_cases hb : (cvar l (cboxH l c).2).2.2 = true
  · right
    rw [if_pos (.inr hb)]
    have hms2 : ms.2.2 = true := by rw [← h1]; exact crep_bad (cmail_bad l) _ _ hb
    refine ⟨.inl ?_, ?_⟩
    · simp only [cints]; rw [cupto_bad _ _ (cvar_bad2 l _ hms2)]; exact cvar_bad2 l _ hms2
    · exact cnums_bad l _ _ (crep_bad (cmail_bad l) _ _ rfl)
  · by_cases ht : 10 < (cvar l (cboxH l c).2).1
    · right
      rw [if_pos (.inl ht)]
      refine ⟨.inr (boxOk_not (.inl (.inl ?_))), cnums_bad l _ _ (crep_bad (cmail_bad l) _ _ rfl)⟩
      simp only [h4]; omega
    · rw [if_neg (by rw [not_or]; exact ⟨ht, hb⟩)]
      rw [show Min.min (cvar l (cboxH l c).2).1.toNat 11 = (cvar l (cboxH l c).2).1.toNat by omega] at h1
      rw [h1]
      rcases cints_nums l 40 ms.2 with ⟨q1, q2⟩ | q
      · right
        refine ⟨?_, q2⟩
        rcases q1 with q1 | q1
        · exact .inl q1
        · exact .inr (boxOk_not (.inl (.inr q1)))
      · left; rw [q]; rfl
theorem sbox_box (l : List UInt8) (c : Cur) : (match sbox l c with | some r => r.2.2 = false ∧ boxOk r.1 = true | none => False) ↔ (cbox l c).2.2 = false ∧ boxOk (cbox l c).1 = true := by
  have hn := cvar_nn l (cboxH l c).2
  cases hs : sbox l c with
  | some r =>
    simp only
    rcases sbox_key hs with h | ⟨h1, h2⟩
    · rw [h]
    · constructor
      · rintro ⟨h3, h4⟩
        rcases h1 with h1 | h1
        · rw [h1] at h3; cases h3
        · rw [h1] at h4; cases h4
      · rintro ⟨h3, _⟩; rw [h2] at h3; cases h3
  | none =>
    simp only [false_iff]
    rintro ⟨h3, h4⟩
    simp only [sbox, Option.map_eq_none_iff] at hs
    have hk := cmok_none hs
    simp only [cbox, cmany] at h3 h4
    by_cases hb : (cvar l (cboxH l c).2).2.2 = true
    · rw [if_pos (.inr hb)] at h3
      rw [cnums_bad l _ _ (crep_bad (cmail_bad l) _ _ rfl)] at h3; cases h3
    · by_cases ht : 10 < (cvar l (cboxH l c).2).1
      · rw [if_pos (.inl ht)] at h3
        rw [cnums_bad l _ _ (crep_bad (cmail_bad l) _ _ rfl)] at h3; cases h3
      · rw [if_neg (by rw [not_or]; exact ⟨ht, hb⟩)] at h3 h4
        rw [show Min.min (cvar l (cboxH l c).2).1.toNat 11 = (cvar l (cboxH l c).2).1.toNat by omega] at hk
        rcases hk with hk | ⟨m, hm, hk⟩
        · rw [cnums_bad l _ _ hk] at h3; cases h3
        · rw [boxOk_not (.inr ⟨m, hm, hk⟩)] at h4; cases h4
theorem readBox_s (l : List UInt8) (a : Int) : readBox l a = match sbox l (a, false) with
    | some r => if r.2.2 = false ∧ boxOk r.1 = true then (r.1, r.2.1, true) else (box0, 0, false)
    | none => (box0, 0, false) := by
  have h := sbox_box l (a, false)
  unfold readBox
  cases hs : sbox l (a, false) with
  | none =>
    rw [hs] at h
    simp only [false_iff] at h
    rw [if_neg h]
  | some r =>
    rw [hs] at h
    simp only at h ⊢
    by_cases c : r.2.2 = false ∧ boxOk r.1 = true
    · rw [if_pos c, if_pos (h.1 c)]
      rcases sbox_key hs with q | ⟨q1, q2⟩
      · rw [q]
      · rw [(h.1 c).1] at q2; cases q2
    · rw [if_neg c, if_neg fun k => c (h.2 k)]
end Mx

/-
  The other side's boxes: the walk.
-/
namespace Mx
open Go
variable {M : Nat → Option Body}
def rbO (b : Box) (i : Nat) (acc : List Mail) (l : List UInt8) (c : Cur) (x : Four) : List (Nat × Ob) := [(4, ⟨x.a, 7, true, true, [bzero]⟩), (8, ⟨x.b, 7, true, true, [[I b.gid, S b.name, I b.time, I b.who, I b.next, if i = 0 then .nils 4 else .row 70 x.c 0 i, .nils 1]]⟩), (17, curO 2000096 l c)] ++ if i = 0 then [] else [(70, ⟨x.c, 4, true, false, acc.map encMail⟩)]
def rbS (l : List UInt8) (b : Box) (n i : Nat) (acc : List Mail) (c : Cur) (x : Four) : St := { t := [(0, .c (S l)), (4, .c (.ptr 4 x.a 0 0)), (7, .c (.ptr 17 2000096 0 0)), (8, .c (.ptr 8 x.b 0 0)), (9, .c (I n)), (10, .c (I i))], o := rbO b i acc l c x, n := x.d }
def rbE (l : List UInt8) (b : Box) (n i : Nat) (acc : List Mail) (c : Cur) (x : Four) : St := { t := [(0, .c (S l)), (4, .c (.ptr 4 x.a 0 0)), (7, .c (.ptr 17 2000096 0 0)), (8, .c (.ptr 8 x.b 0 0)), (9, .c (I n)), (10, .c (I i)), (50, .c (.bool false))], o := rbO b i acc l c x, n := x.d }
def rbF (l : List UInt8) (b : Box) (n : Nat) (q : Option (List Mail × Cur)) (m : Four × List (Nat × Ob)) : Out × St := match q with
  | none => (.ret, { t := [(4, .c (.ptr 4 m.1.a 0 0)), (5, .c (I 0)), (6, .c (.bool false))], o := (4, ⟨m.1.a, 7, true, true, [bzero]⟩) :: m.2, n := m.1.d })
  | some r => (.exit 0, rbE l b n r.1.length r.1 r.2 m.1)
theorem rbF_ne (l : List UInt8) (b : Box) (n : Nat) (q : Option (List Mail × Cur)) (m : Four × List (Nat × Ob)) : (rbF l b n q m).1 ≠ .normal := by cases q <;> simp [rbF]
theorem spec_ReadBox.loop (k5 : spec_ReadMail.k M) (l : List UInt8) (hl : l.length ≤ 4611686018427387904) (b : Box) (n D : Nat) (hD : Min.min n 11 = D) (c : Cur) (hc : 0 < D → c.2 = false) :
    ∃ g : Four → Four × List (Nat × Ob), ∀ x, loopN (exC (run M) (D + 1) spec_ReadBox.l0) (D + 1) (rbS l b n 0 [] c x) = some (rbF l b n (cmok l D c) (g x)) := by
  have := loop_all (f := exC (run M) (D + 1) spec_ReadBox.l0) (fun s : Nat × List Mail × Cur => rbS l b n s.1 s.2.1 s.2.2) (fun s => s.1 ≤ D ∧ s.2.1.length = s.1 ∧ (s.1 < D → s.2.2.2 = false)) (fun s => D - s.1)
    (fun s => (cmok l (D - s.1) s.2.2).map fun r => (s.2.1 ++ r.1, r.2)) (rbF l b n) ?_ (D + 1) (0, [], c) ⟨Nat.zero_le _, rfl, hc⟩ (by simp)
  · simpa using this
  rintro ⟨i, acc, c⟩ x ⟨hi, ha, hc⟩
  simp only at hi ha hc
  by_cases hlt : i < D
  · have hc := hc hlt
    obtain ⟨ca, cb⟩ := c
    simp only at hc
    subst hc
    have h2 := spec_ReadMail.says k5 l hl ca
    have h3 : i < n := by omega
    have h4 : i ≤ 10 := by omega
    have h3' : (i : Int) < n := by omega
    have h4' : (i : Int) ≤ 10 := by omega
    have hd : D - i = (D - (i + 1)) + 1 := by omega
    obtain ⟨xa, xb, xc, xd⟩ := x
    unfold readMail at h2
    by_cases hk : (cmail l (ca, false)).2.2 = false ∧ mailOk (cmail l (ca, false)).1 = true
    · left
      rw [if_pos hk] at h2
      refine ⟨(i + 1, acc ++ [(cmail l (ca, false)).1], (cmail l (ca, false)).2), ?_⟩
      have hcc : (cmail l (ca, false)).2 = ((cmail l (ca, false)).2.1, false) := Prod.ext rfl hk.1
      have hres : (cmok l (D - (i + 1)) (cmail l (ca, false)).2).map (fun r => ((acc ++ [(cmail l (ca, false)).1]) ++ r.1, r.2)) = (cmok l (D - i) (ca, false)).map fun r => (acc ++ r.1, r.2) := by
        rw [hd, cmok, if_pos hk, Option.map_map]
        congr 1
        funext r; simp
      simp only [hres, and_true]
      have hrun : ∃ y, exC (run M) (D + 1) spec_ReadBox.l0 (rbS l b n i acc (ca, false) ⟨xa, xb, xc, xd⟩) = some (.normal, rbS l b n (i + 1) (acc ++ [(cmail l (ca, false)).1]) (cmail l (ca, false)).2 y) := by
        rw [hcc]
        generalize cmail l (ca, false) = r at *
        simp only [Four.ex]
        cases i with
        | zero =>
          have : acc = [] := List.eq_nil_of_length_eq_zero ha
          subst this
          simp (maxSteps := 1000000) [spec_ReadBox.l0, List.range_succ, bs_get, setAt, rbS, rbO, h2, h3, h4, wrap_one, encMailO, encMail]
        | succ i =>
          have e5 : IntKind.i64.wrap ((i : Int) + 1 + 1) = (i : Int) + 1 + 1 := wrap_i64 (by omega) (by omega)
          have e6 : i + 1 + 1 ≤ 4294967296 := by omega
          have h3' : (i : Int) + 1 < n := by omega
          have h4' : (i : Int) + 1 ≤ 10 := by omega
          simp (maxSteps := 1000000) [spec_ReadBox.l0, List.range_succ, bs_get, setAt, rbS, rbO, h3', h4', h2, e5, e6, ha, encMailO, encMail, List.take_of_length_le]
      obtain ⟨y, hy⟩ := hrun
      exact ⟨y, hy, ⟨hlt, by simp [ha], fun _ => hk.1⟩, by omega⟩
    · right
      rw [if_neg hk] at h2
      rw [hd, cmok, if_neg hk]
      have hrun : ∃ z, exC (run M) (D + 1) spec_ReadBox.l0 (rbS l b n i acc (ca, false) ⟨xa, xb, xc, xd⟩) = some (rbF l b n none z) := by
        simp only [Prod.exists, Four.ex]
        cases i with
        | zero =>
          have : acc = [] := List.eq_nil_of_length_eq_zero ha
          subst this
          simp (maxSteps := 1000000) [spec_ReadBox.l0, List.range_succ, bs_get, setAt, rbS, rbO, rbF, h2, h3, h4, mail0]
        | succ i =>
          have h3' : (i : Int) + 1 < n := by omega
          have h4' : (i : Int) + 1 ≤ 10 := by omega
          simp (maxSteps := 1000000) [spec_ReadBox.l0, List.range_succ, bs_get, setAt, rbS, rbO, rbF, h3', h4', h2, ha, mail0]
      obtain ⟨z, hz⟩ := hrun
      exact ⟨z, hz, rbF_ne _ _ _ _ _⟩
  · have : i = D := by omega
    subst this
    right
    rw [Nat.sub_self]
    simp only [cmok, Option.map_some, List.append_nil]
    have hrun : ∃ z, exC (run M) (i + 1) spec_ReadBox.l0 (rbS l b n i acc c x) = some (rbF l b n (some (acc, c)) (z, [])) := by
      obtain ⟨xa, xb, xc, xd⟩ := x
      simp only [Four.ex]
      have hx : i = n ∨ i = 11 := by omega
      rcases hx with rfl | rfl
      · by_cases hz : i = 0
        · subst hz
          simp (maxSteps := 1000000) [spec_ReadBox.l0, List.range_succ, bs_get, setAt, rbS, rbE, rbF, rbO, ha]
        · simp (maxSteps := 1000000) [spec_ReadBox.l0, List.range_succ, bs_get, setAt, rbS, rbE, rbF, rbO, ha, hz]
      · have h1 : 11 ≤ n := by omega
        by_cases h2 : (11 : Int) < n
        · simp (maxSteps := 1000000) [spec_ReadBox.l0, List.range_succ, bs_get, setAt, rbS, rbE, rbF, rbO, ha, h2]
        · simp (maxSteps := 1000000) [spec_ReadBox.l0, List.range_succ, bs_get, setAt, rbS, rbE, rbF, rbO, ha, h2]
    obtain ⟨z, hz⟩ := hrun
    exact ⟨(z, []), hz, rbF_ne _ _ _ _ _⟩
end Mx

/-
  The other side's boxes: the answer.
-/
namespace Mx
open Go
variable {M : Nat → Option Body}
theorem cshort_len (l : List UInt8) (c : Cur) : (cshort l c).1.length ≤ l.length := by
  have h : (readShort l c.1).1.length ≤ l.length := by
    unfold readShort; split
    · simp; omega
    · simp
  unfold cshort; split
  · simp
  · exact h
theorem cmail_flags (l : List UInt8) (c : Cur) : (cmail l c).1.flags.length = 3 := by simp [cmail, crep_len]
theorem cmok_flags {l : List UInt8} : ∀ {d : Nat} {c : Cur} {r : List Mail × Cur}, cmok l d c = some r → ∀ m ∈ r.1, m.flags.length = 3
  | 0, c, r, h => by simp [cmok] at h; subst h; simp
  | d + 1, c, r, h => by
    simp only [cmok] at h
    split at h
    · simp only [Option.map_eq_some_iff] at h
      obtain ⟨q, hq, rfl⟩ := h
      intro m hm
      rcases List.mem_cons.1 hm with rfl | hm
      · exact cmail_flags l c
      · exact cmok_flags hq m hm
    · cases h
theorem cupto_le {α : Type} {p : Cur → α × Cur} : ∀ n c, (cupto p n c).1.length ≤ n
  | 0, c => by simp [cupto]
  | n + 1, c => by
    simp only [cupto]; split
    · simp
    · have := cupto_le (p := p) n (p c).2; simp; omega
set_option maxHeartbeats 1000000 in
theorem spec_ReadBox.says (h : spec_ReadBox.k M) (l : List UInt8) (hl : l.length ≤ 1048576) (a : Int) :
    run M 52 [.c (S l), .c (I a)] [] = some (.tup [.a (encBoxO (readBox l a).1), .c (I (readBox l a).2.1), .c (.bool (readBox l a).2.2)], []) := by
  obtain ⟨h0, k1, k2, k3, k5, k4⟩ := h
  have hl2 : l.length ≤ 4611686018427387904 := by omega
  have h1 := spec_l05Var.at k2 l hl2 a false
  have h2 := spec_l05Short.says k3 l hl2 (cvar l (a, false)).2
  have h3 := spec_l05Var.says k2 l hl2 (cshort l (cvar l (a, false)).2).2
  have h4 := spec_l05Var.says k2 l hl2 (cvar l (cshort l (cvar l (a, false)).2).2).2
  have h5 := spec_l05Var.says k2 l hl2 (cvar l (cvar l (cshort l (cvar l (a, false)).2).2).2).2
  rw [readBox_s]
  have e0 : sbox l (a, false) = (cmok l (Min.min (cvar l (cboxH l (a, false)).2).1.toNat 11) (cvar l (cboxH l (a, false)).2).2).map fun ms => ({ (cboxH l (a, false)).1 with mails := ms.1, gone := (cints l 40 ms.2).1 }, (cints l 40 ms.2).2) := rfl
  rw [e0]
  have e1 : cboxH l (a, false) = (⟨(cvar l (a, false)).1, (cshort l (cvar l (a, false)).2).1, (cvar l (cshort l (cvar l (a, false)).2).2).1, (cvar l (cvar l (cshort l (cvar l (a, false)).2).2).2).1, (cvar l (cvar l (cvar l (cshort l (cvar l (a, false)).2).2).2).2).1, [], []⟩, (cvar l (cvar l (cvar l (cshort l (cvar l (a, false)).2).2).2).2).2) := rfl
  rw [e1]
  clear e0 e1
  have hname := cshort_len l (cvar l (a, false)).2
  generalize cvar l (a, false) = q1 at *
  generalize cshort l q1.2 = q2 at *
  generalize cvar l q2.2 = q3 at *
  generalize cvar l q3.2 = q4 at *
  generalize cvar l q4.2 = q5 at *
  have h6 := spec_l05Var.says k2 l hl2 q5.2
  have hn := cvar_nn l q5.2
  have hz : (cvar l q5.2).2.2 = true → (cvar l q5.2).1 = 0 := by
    unfold cvar; split
    · intro _; rfl
    · intro h; cases h
  simp only
  generalize cvar l q5.2 = q6 at *
  obtain ⟨n, c1⟩ := q6
  simp only at hn hz ⊢
  obtain ⟨n, rfl⟩ := Int.eq_ofNat_of_zero_le hn.1
  simp only [Int.toNat_natCast]
  obtain ⟨D, hD⟩ : ∃ D, Min.min n 11 = D := ⟨_, rfl⟩
  refine run_code (b := spec_ReadBox.m) h0 ⟨D + 1, ?_⟩
  obtain ⟨g, hr⟩ := spec_ReadBox.loop k5 l hl2 ⟨q1.1, q2.1, q3.1, q4.1, q5.1, [], []⟩ n D hD c1 (fun hd => by
    cases hc : c1.2
    · rfl
    · have := hz hc; omega)
  rw [hD]
  replace hr := fun a b d => hr ⟨a, b, 0, d⟩
  cases hq : cmok l D c1 with
  | none =>
    simp only [hq] at hr
    simp [rbS, rbO, rbF] at hr
    simp only [Option.map_none]
    simp (maxSteps := 1000000) [exB, spec_ReadBox.m, spec_ReadBox.b, List.range_succ, bs_get, setAt, h1, h2, h3, h4, h5, h6, hr, box0, irow]
  | some r =>
    simp only [hq] at hr
    simp only [Option.map_some]
    obtain ⟨m1, m2, m3, m4⟩ := cmok_some hq
    have m5 := cmok_flags hq
    have h7 := spec_l10Ints.says k4 l hl2 40 (by omega) r.2
    simp only [Int.cast_ofNat_Int] at h7
    have hgl : (cints l 40 r.2).1.length ≤ 41 := by
      unfold cints
      exact Nat.le_trans (cupto_le _ _) (by omega)
    have h8 := spec_BoxOk.says k1 ⟨q1.1, q2.1, q3.1, q4.1, q5.1, r.1, (cints l 40 r.2).1⟩ (by simp only [m4]; omega) (by simp only; omega) (by simp only; omega) (fun m hm => by rw [m5 m hm]; omega)
    simp only [encBox] at h8
    generalize cints l 40 r.2 = w at *
    generalize hbb : boxOk _ = ok at *
    by_cases hz : D = 0
    · have hr0 : r.1 = [] := List.eq_nil_of_length_eq_zero (by omega)
      subst hz
      simp [rbS, rbE, rbO, rbF, hr0] at hr
      simp only [hr0, mails, ints, irow, List.map_nil] at h8
      cases c1 : w.2.2
      · cases ok <;> simp (maxSteps := 1000000) [exB, spec_ReadBox.m, spec_ReadBox.b, List.range_succ, bs_get, setAt, h1, h2, h3, h4, h5, h6, h7, h8, hr, hr0, c1, box0, irow, List.take_of_length_le]
      · simp (maxSteps := 1000000) [exB, spec_ReadBox.m, spec_ReadBox.b, List.range_succ, bs_get, setAt, h1, h2, h3, h4, h5, h6, h7, hr, hr0, c1, box0, irow, List.take_of_length_le]
    · have hz' : ¬ r.1.length = 0 := by omega
      have hz'' : r.1 ≠ [] := fun e => hz' (by rw [e]; rfl)
      simp only [mails, ints, irow] at h8
      simp [rbS, rbE, rbO, rbF, hz''] at hr
      cases c1 : w.2.2
      · cases ok <;> simp (maxSteps := 1000000) [exB, spec_ReadBox.m, spec_ReadBox.b, List.range_succ, bs_get, setAt, h1, h2, h3, h4, h5, h6, h7, h8, hr, hz'', c1, box0, irow, List.take_of_length_le]
      · simp (maxSteps := 1000000) [exB, spec_ReadBox.m, spec_ReadBox.b, List.range_succ, bs_get, setAt, h1, h2, h3, h4, h5, h6, h7, hr, hz'', c1, box0, irow, List.take_of_length_le]
end Mx

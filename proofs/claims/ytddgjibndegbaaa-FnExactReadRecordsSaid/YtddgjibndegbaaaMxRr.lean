/-
  Small codes: impl.within, spec.l01In.
-/
import Derived.Test.YtddgjibndegbaaaMxB
namespace Mx
open Go
def impl_within.b : C := .seq (.reg [⟨some 6, .mv (.k (.bool false)), none⟩] [0, 1, 2] [])
  (.seq (.reg [⟨some 7, .mv (.t 0), none⟩,
    ⟨some 8, .mv (.t 1), none⟩,
    ⟨some 9, .bin .geq (.t 7) (.t 8), none⟩,
    ⟨some 10, .mv (.t 9), none⟩,
    ⟨some 11, .mv (.t 0), some (10, true)⟩,
    ⟨some 12, .mv (.t 2), some (10, true)⟩,
    ⟨some 13, .bin .leq (.t 11) (.t 12), some (10, true)⟩,
    ⟨some 14, .pick (.t 10) (.t 13) (.k (.bool false)), none⟩,
    ⟨some 6, .mv (.t 14), none⟩] [6] [])
  (.ret))
def impl_within.m : Fn := { np := 3, body := impl_within.b, res := [.tmp 6] }
def impl_within.k (M : Nat → Option Body) : Prop := M 101 = some (.code impl_within.m)
def spec_l01In.b : C := .seq (.reg [⟨some 6, .mv (.k (.bool false)), none⟩] [0, 1, 2] [])
  (.seq (.reg [⟨some 7, .mv (.t 0), none⟩,
    ⟨some 8, .mv (.t 1), none⟩,
    ⟨some 9, .bin .geq (.t 7) (.t 8), none⟩,
    ⟨some 10, .mv (.t 9), none⟩,
    ⟨some 11, .mv (.t 0), some (10, true)⟩,
    ⟨some 12, .mv (.t 2), some (10, true)⟩,
    ⟨some 13, .bin .leq (.t 11) (.t 12), some (10, true)⟩,
    ⟨some 14, .pick (.t 10) (.t 13) (.k (.bool false)), none⟩,
    ⟨some 6, .mv (.t 14), none⟩] [6] [])
  (.ret))
def spec_l01In.m : Fn := { np := 3, body := spec_l01In.b, res := [.tmp 6] }
def spec_l01In.k (M : Nat → Option Body) : Prop := M 98 = some (.code spec_l01In.m)
end Mx

/-
  What within answers.
-/
namespace Mx
open Go
variable {M : Nat → Option Body}
theorem impl_within.says (h : impl_within.k M) (n a b : Int) : run M 101 [.c (I n), .c (I a), .c (I b)] [] = some (.c (.bool (decide (a ≤ n) && decide (n ≤ b))), []) := by
  refine run_code (b := impl_within.m) h ⟨0, ?_⟩
  by_cases h : a ≤ n
  · have h' : n ≥ a := h
    simp [exB, impl_within.m, impl_within.b, List.range_succ, h]
  · have h' : ¬ n ≥ a := h
    simp [exB, impl_within.m, impl_within.b, List.range_succ, h]
theorem spec_l01In.says (h : spec_l01In.k M) (n a b : Int) : run M 98 [.c (I n), .c (I a), .c (I b)] [] = some (.c (.bool (decide (a ≤ n) && decide (n ≤ b))), []) := by
  refine run_code (b := spec_l01In.m) h ⟨0, ?_⟩
  by_cases h : a ≤ n
  · have h' : n ≥ a := h
    simp [exB, spec_l01In.m, spec_l01In.b, List.range_succ, h]
  · have h' : ¬ n ≥ a := h
    simp [exB, spec_l01In.m, spec_l01In.b, List.range_succ, h]
end Mx

/-
  Numbers bit by bit.
-/
namespace Mx
open Go
theorem wrap_u8 (x : Int) : IntKind.u8.wrap x = x % 256 := by
  unfold IntKind.wrap; simp [IntKind.bits, IntKind.signed]
theorem wrap_u32 (x : Int) : IntKind.u32.wrap x = x % 4294967296 := by
  unfold IntKind.wrap; simp [IntKind.bits, IntKind.signed]

theorem andI_eq (k : IntKind) (x y : Int) : andI k x y = k.wrap (((x % ((2 ^ k.bits : Nat) : Int)).toNat &&& (y % ((2 ^ k.bits : Nat) : Int)).toNat : Nat) : Int) := by
  unfold andI; rw [BitVec.toNat_and, BitVec.toNat_ofInt, BitVec.toNat_ofInt]
theorem orI_eq (k : IntKind) (x y : Int) : orI k x y = k.wrap (((x % ((2 ^ k.bits : Nat) : Int)).toNat ||| (y % ((2 ^ k.bits : Nat) : Int)).toNat : Nat) : Int) := by
  unfold orI; rw [BitVec.toNat_or, BitVec.toNat_ofInt, BitVec.toNat_ofInt]
theorem and_i64 (n m : Nat) (hn : n < 9223372036854775808) (hm : m < 9223372036854775808) : andI .i64 n m = ((n &&& m : Nat) : Int) := by
  rw [andI_eq]
  have e : ∀ k : Nat, k < 9223372036854775808 → ((k : Int) % ((2 ^ IntKind.i64.bits : Nat) : Int)).toNat = k := by
    intro k hk
    show ((k : Int) % 18446744073709551616).toNat = k
    omega
  rw [e n hn, e m hm]
  have : n &&& m ≤ n := Nat.and_le_left
  exact wrap_i64 (by omega) (by omega)
theorem or_i64 (n m : Nat) (hn : n < 9223372036854775808) (hm : m < 9223372036854775808) : orI .i64 n m = ((n ||| m : Nat) : Int) := by
  rw [orI_eq]
  have e : ∀ k : Nat, k < 9223372036854775808 → ((k : Int) % ((2 ^ IntKind.i64.bits : Nat) : Int)).toNat = k := by
    intro k hk
    show ((k : Int) % 18446744073709551616).toNat = k
    omega
  rw [e n hn, e m hm]
  have : n ||| m < 2 ^ 63 := Nat.or_lt_two_pow (by omega) (by omega)
  exact wrap_i64 (by omega) (by omega)
theorem and_u8 (n m : Nat) (hn : n < 256) (hm : m < 256) : andI .u8 n m = ((n &&& m : Nat) : Int) := by
  rw [andI_eq]
  have e : ∀ k : Nat, k < 256 → ((k : Int) % ((2 ^ IntKind.u8.bits : Nat) : Int)).toNat = k := by
    intro k hk
    show ((k : Int) % 256).toNat = k
    omega
  rw [e n hn, e m hm, wrap_u8]
  have : n &&& m ≤ n := Nat.and_le_left
  omega
theorem and_127 (n : Nat) : n &&& 127 = n % 128 := Nat.and_two_pow_sub_one_eq_mod n 7
theorem or_128 (n : Nat) (h : n < 128) : n ||| 128 = n + 128 := by
  have := Nat.two_pow_add_eq_or_of_lt (i := 7) (b := n) h 1
  rw [Nat.or_comm]
  have e : 2 ^ 7 * 1 = 128 := by decide
  rw [e] at this
  omega
/-- digits above stand for themselves -/
theorem or_high (n d k : Nat) (h : n < 128 ^ k) : n ||| d * 128 ^ k = n + d * 128 ^ k := by
  have e : (128 : Nat) ^ k = 2 ^ (7 * k) := by rw [show (128 : Nat) = 2 ^ 7 by decide, ← Nat.pow_mul]
  rw [e] at h ⊢
  have := Nat.two_pow_add_eq_or_of_lt (i := 7 * k) (b := n) h d
  rw [Nat.or_comm, Nat.mul_comm d, ← this, Nat.add_comm]
theorem brow_nil : brow [] = [] := rfl
theorem brow1 (b : UInt8) : [[T.int .u8 (b.toNat : Int)]] = brow [b] := rfl
theorem ofNat_toNat (n : Nat) : ((UInt8.ofNat n).toNat : Int) = (n : Int) % 256 := by simp
attribute [simp] brow_nil
end Mx

/-
  Small codes: spec.l02Four, impl.four, spec.SumMore, spec.SumOf, impl.SumMore, impl.SumOf, spec.Sealed, impl.Sealed, spec.Unsealed, impl.fourAt, impl.Unsealed.
-/
namespace Mx
open Go
def spec_l02Four.b : C := .seq (.reg [⟨some 2, .mv (.k (.str ⟨#[]⟩)), none⟩] [0] [])
  (.seq (.reg [⟨some 3, .mv (.t 0), none⟩,
    ⟨some 4, .bin .shr (.t 3) (.k (.int .u64 24)), none⟩,
    ⟨some 5, .i2i .u8 (.t 4), none⟩,
    ⟨some 6, .mv (.t 0), none⟩,
    ⟨some 7, .bin .shr (.t 6) (.k (.int .u64 16)), none⟩,
    ⟨some 8, .i2i .u8 (.t 7), none⟩,
    ⟨some 9, .mv (.t 0), none⟩,
    ⟨some 10, .bin .shr (.t 9) (.k (.int .u64 8)), none⟩,
    ⟨some 11, .i2i .u8 (.t 10), none⟩,
    ⟨some 12, .mv (.t 0), none⟩,
    ⟨some 13, .i2i .u8 (.t 12), none⟩,
    ⟨some 14, .bslice 1 4 [.int .u8 0] [(0, .t 5), (1, .t 8), (2, .t 11), (3, .t 13)], none⟩,
    ⟨some 15, .b2s (.t 14), none⟩,
    ⟨some 2, .mv (.t 15), none⟩] [2] [])
  (.ret))
def spec_l02Four.m : Fn := { np := 1, body := spec_l02Four.b, res := [.tmp 2] }
def spec_l02Four.k (M : Nat → Option Body) : Prop := M 202 = some (.code spec_l02Four.m)
def impl_four.b : C := .seq (.reg [⟨some 2, .mv (.k (.str ⟨#[]⟩)), none⟩] [0] [])
  (.seq (.reg [⟨some 3, .mv (.t 0), none⟩,
    ⟨some 4, .bin .shr (.t 3) (.k (.int .u64 24)), none⟩,
    ⟨some 5, .i2i .u8 (.t 4), none⟩,
    ⟨some 6, .mv (.t 0), none⟩,
    ⟨some 7, .bin .shr (.t 6) (.k (.int .u64 16)), none⟩,
    ⟨some 8, .i2i .u8 (.t 7), none⟩,
    ⟨some 9, .mv (.t 0), none⟩,
    ⟨some 10, .bin .shr (.t 9) (.k (.int .u64 8)), none⟩,
    ⟨some 11, .i2i .u8 (.t 10), none⟩,
    ⟨some 12, .mv (.t 0), none⟩,
    ⟨some 13, .i2i .u8 (.t 12), none⟩,
    ⟨some 14, .bslice 1 4 [.int .u8 0] [(0, .t 5), (1, .t 8), (2, .t 11), (3, .t 13)], none⟩,
    ⟨some 15, .b2s (.t 14), none⟩,
    ⟨some 2, .mv (.t 15), none⟩] [2] [])
  (.ret))
def impl_four.m : Fn := { np := 1, body := impl_four.b, res := [.tmp 2] }
def impl_four.k (M : Nat → Option Body) : Prop := M 204 = some (.code impl_four.m)
def spec_SumMore.l1 : C := .seq (.seq (.reg [⟨some 20, .mv (.t 6), none⟩,
    ⟨some 21, .bin .lss (.t 20) (.k (.int .i64 8)), none⟩] [0, 1, 5, 6, 21] [])
  (.cond (.t 21) (.skip) (.exit 2)))
  (.seq (.block 3 (.seq (.reg [⟨some 24, .mv (.t 0), none⟩,
    ⟨some 25, .bin .rem (.t 24) (.k (.int .u32 2)), none⟩,
    ⟨some 26, .bin .eql (.t 25) (.k (.int .u32 1)), none⟩,
    ⟨some 7, .mv (.t 26), none⟩] [0, 1, 5, 6, 7] [])
  (.seq (.reg [⟨some 27, .mv (.t 0), none⟩,
    ⟨some 28, .bin .quo (.t 27) (.k (.int .u32 2)), none⟩,
    ⟨some 0, .mv (.t 28), none⟩] [0, 1, 5, 6, 7] [])
  (.seq (.reg [⟨some 29, .mv (.t 7), none⟩] [0, 1, 5, 6, 29] [])
  (.cond (.t 29) (.reg [⟨some 30, .mv (.t 0), none⟩,
    ⟨some 31, .bin .xor (.t 30) (.k (.int .u32 3558460437)), none⟩,
    ⟨some 0, .mv (.t 31), none⟩] [0, 1, 5, 6] []) (.skip))))))
  (.reg [⟨some 22, .mv (.t 6), none⟩,
    ⟨some 23, .bin .add (.t 22) (.k (.int .i64 1)), none⟩,
    ⟨some 6, .mv (.t 23), none⟩] [0, 1, 5, 6] []))
def spec_SumMore.l0 : C := .seq (.seq (.reg [⟨some 8, .mv (.t 5), none⟩,
    ⟨some 9, .mv (.t 1), none⟩,
    ⟨some 10, .slen (.t 9), none⟩,
    ⟨some 11, .bin .lss (.t 8) (.t 10), none⟩] [0, 1, 5, 11] [])
  (.cond (.t 11) (.skip) (.exit 0)))
  (.seq (.block 1 (.seq (.reg [⟨some 14, .mv (.t 0), none⟩,
    ⟨some 15, .mv (.t 1), none⟩,
    ⟨some 16, .mv (.t 5), none⟩,
    ⟨some 17, .idx (.t 15) (.t 16), none⟩,
    ⟨some 18, .i2i .u32 (.t 17), none⟩,
    ⟨some 19, .bin .xor (.t 14) (.t 18), none⟩,
    ⟨some 0, .mv (.t 19), none⟩] [0, 1, 5] [])
  (.seq (.reg [⟨some 6, .mv (.k (.int .i64 0)), none⟩] [0, 1, 5, 6] [])
  (.block 2 (.loop spec_SumMore.l1)))))
  (.reg [⟨some 12, .mv (.t 5), none⟩,
    ⟨some 13, .bin .add (.t 12) (.k (.int .i64 1)), none⟩,
    ⟨some 5, .mv (.t 13), none⟩] [0, 1, 5] []))
def spec_SumMore.b : C := .seq (.reg [⟨some 4, .mv (.k (.int .u32 0)), none⟩] [0, 1] [])
  (.seq (.seq (.reg [⟨some 5, .mv (.k (.int .i64 0)), none⟩] [0, 1, 5] [])
  (.block 0 (.loop spec_SumMore.l0)))
  (.seq (.reg [⟨some 32, .mv (.t 0), none⟩,
    ⟨some 4, .mv (.t 32), none⟩] [4] [])
  (.ret)))
def spec_SumMore.m : Fn := { np := 2, body := spec_SumMore.b, res := [.tmp 4] }
def spec_SumMore.k (M : Nat → Option Body) : Prop := M 248 = some (.code spec_SumMore.m)
def spec_SumOf.b : C := .seq (.reg [⟨some 2, .mv (.k (.int .u32 0)), none⟩] [0] [])
  (.seq (.reg [⟨some 3, .mv (.t 0), none⟩,
    ⟨some 4, .call 248 [.k (.int .u32 4294967295), .t 3] [] [], none⟩,
    ⟨some 2, .mv (.t 4), none⟩] [2] [])
  (.ret))
def spec_SumOf.m : Fn := { np := 1, body := spec_SumOf.b, res := [.tmp 2] }
def spec_SumOf.k (M : Nat → Option Body) : Prop := M 201 = some (.code spec_SumOf.m) ∧ spec_SumMore.k M
def impl_SumMore.l1 : C := .seq (.reg [⟨some 20, .bin .lss (.t 19) (.k (.int .i64 8)), none⟩] [0, 1, 5, 19, 20] [])
  (.seq (.cond (.t 20) (.skip) (.exit 2))
  (.seq (.block 3 (.seq (.reg [⟨some 21, .mv (.t 0), none⟩,
    ⟨some 22, .bin .and (.t 21) (.k (.int .u32 1)), none⟩,
    ⟨some 6, .mv (.t 22), none⟩] [0, 1, 5, 6, 19] [])
  (.seq (.reg [⟨some 23, .mv (.t 0), none⟩,
    ⟨some 24, .bin .shr (.t 23) (.k (.int .u64 1)), none⟩,
    ⟨some 0, .mv (.t 24), none⟩] [0, 1, 5, 6, 19] [])
  (.seq (.reg [⟨some 25, .mv (.t 6), none⟩,
    ⟨some 26, .bin .eql (.t 25) (.k (.int .u32 1)), none⟩] [0, 1, 5, 19, 26] [])
  (.cond (.t 26) (.reg [⟨some 27, .mv (.t 0), none⟩,
    ⟨some 28, .bin .xor (.t 27) (.k (.int .u32 3558460437)), none⟩,
    ⟨some 0, .mv (.t 28), none⟩] [0, 1, 5, 19] []) (.skip))))))
  (.reg [⟨some 29, .bin .add (.t 19) (.k (.int .i64 1)), none⟩,
    ⟨some 19, .mv (.t 29), none⟩] [0, 1, 5, 19] [])))
def impl_SumMore.l0 : C := .seq (.seq (.reg [⟨some 7, .mv (.t 5), none⟩,
    ⟨some 8, .mv (.t 1), none⟩,
    ⟨some 9, .slen (.t 8), none⟩,
    ⟨some 10, .bin .lss (.t 7) (.t 9), none⟩] [0, 1, 5, 10] [])
  (.cond (.t 10) (.skip) (.exit 0)))
  (.seq (.block 1 (.seq (.reg [⟨some 13, .mv (.t 0), none⟩,
    ⟨some 14, .mv (.t 1), none⟩,
    ⟨some 15, .mv (.t 5), none⟩,
    ⟨some 16, .idx (.t 14) (.t 15), none⟩,
    ⟨some 17, .i2i .u32 (.t 16), none⟩,
    ⟨some 18, .bin .xor (.t 13) (.t 17), none⟩,
    ⟨some 0, .mv (.t 18), none⟩] [0, 1, 5] [])
  (.seq (.reg [⟨some 19, .mv (.k (.int .i64 0)), none⟩] [0, 1, 5, 19] [])
  (.block 2 (.loop impl_SumMore.l1)))))
  (.reg [⟨some 11, .mv (.t 5), none⟩,
    ⟨some 12, .bin .add (.t 11) (.k (.int .i64 1)), none⟩,
    ⟨some 5, .mv (.t 12), none⟩] [0, 1, 5] []))
def impl_SumMore.b : C := .seq (.reg [⟨some 4, .mv (.k (.int .u32 0)), none⟩] [0, 1] [])
  (.seq (.seq (.reg [⟨some 5, .mv (.k (.int .i64 0)), none⟩] [0, 1, 5] [])
  (.block 0 (.loop impl_SumMore.l0)))
  (.seq (.reg [⟨some 30, .mv (.t 0), none⟩,
    ⟨some 4, .mv (.t 30), none⟩] [4] [])
  (.ret)))
def impl_SumMore.m : Fn := { np := 2, body := impl_SumMore.b, res := [.tmp 4] }
def impl_SumMore.k (M : Nat → Option Body) : Prop := M 249 = some (.code impl_SumMore.m)
def impl_SumOf.b : C := .seq (.reg [⟨some 2, .mv (.k (.int .u32 0)), none⟩] [0] [])
  (.seq (.reg [⟨some 3, .mv (.t 0), none⟩,
    ⟨some 4, .call 249 [.k (.int .u32 4294967295), .t 3] [] [], none⟩,
    ⟨some 2, .mv (.t 4), none⟩] [2] [])
  (.ret))
def impl_SumOf.m : Fn := { np := 1, body := impl_SumOf.b, res := [.tmp 2] }
def impl_SumOf.k (M : Nat → Option Body) : Prop := M 203 = some (.code impl_SumOf.m) ∧ impl_SumMore.k M
def spec_Sealed.b : C := .seq (.reg [⟨some 2, .mv (.k (.str ⟨#[]⟩)), none⟩,
    ⟨some 3, .mv (.k (.bool false)), none⟩] [0] [])
  (.seq (.seq (.reg [⟨some 4, .mv (.t 0), none⟩,
    ⟨some 5, .slen (.t 4), none⟩,
    ⟨some 6, .bin .gtr (.t 5) (.k (.int .i64 20000)), none⟩] [0, 6] [])
  (.cond (.t 6) (.seq (.reg [⟨some 2, .mv (.k (.str ⟨#[]⟩)), none⟩,
    ⟨some 3, .mv (.k (.bool false)), none⟩] [2, 3] [])
  (.ret)) (.skip)))
  (.seq (.reg [⟨some 7, .mv (.t 0), none⟩,
    ⟨some 8, .mv (.t 0), none⟩,
    ⟨some 9, .call 201 [.t 8] [] [], none⟩,
    ⟨some 10, .call 202 [.t 9] [] [], none⟩,
    ⟨some 11, .bin .add (.t 7) (.t 10), none⟩,
    ⟨some 2, .mv (.t 11), none⟩,
    ⟨some 3, .mv (.k (.bool true)), none⟩] [2, 3] [])
  (.ret)))
def spec_Sealed.m : Fn := { np := 1, body := spec_Sealed.b, res := [.tmp 2, .tmp 3] }
def spec_Sealed.k (M : Nat → Option Body) : Prop := M 100 = some (.code spec_Sealed.m) ∧ spec_SumOf.k M ∧ spec_l02Four.k M
def impl_Sealed.b : C := .seq (.reg [⟨some 2, .mv (.k (.str ⟨#[]⟩)), none⟩,
    ⟨some 3, .mv (.k (.bool false)), none⟩] [0] [])
  (.seq (.seq (.reg [⟨some 4, .mv (.t 0), none⟩,
    ⟨some 5, .slen (.t 4), none⟩,
    ⟨some 6, .bin .gtr (.t 5) (.k (.int .i64 20000)), none⟩] [0, 6] [])
  (.cond (.t 6) (.seq (.reg [⟨some 2, .mv (.k (.str ⟨#[]⟩)), none⟩,
    ⟨some 3, .mv (.k (.bool false)), none⟩] [2, 3] [])
  (.ret)) (.skip)))
  (.seq (.reg [⟨some 7, .mv (.t 0), none⟩,
    ⟨some 8, .mv (.t 0), none⟩,
    ⟨some 9, .call 203 [.t 8] [] [], none⟩,
    ⟨some 10, .i2i .i64 (.t 9), none⟩,
    ⟨some 11, .call 204 [.t 10] [] [], none⟩,
    ⟨some 12, .bin .add (.t 7) (.t 11), none⟩,
    ⟨some 2, .mv (.t 12), none⟩,
    ⟨some 3, .mv (.k (.bool true)), none⟩] [2, 3] [])
  (.ret)))
def impl_Sealed.m : Fn := { np := 1, body := impl_Sealed.b, res := [.tmp 2, .tmp 3] }
def impl_Sealed.k (M : Nat → Option Body) : Prop := M 103 = some (.code impl_Sealed.m) ∧ impl_SumOf.k M ∧ impl_four.k M
def spec_Unsealed.b : C := .seq (.reg [⟨some 2, .mv (.k (.str ⟨#[]⟩)), none⟩,
    ⟨some 3, .mv (.k (.bool false)), none⟩] [0] [])
  (.seq (.reg [⟨some 5, .mv (.t 0), none⟩,
    ⟨some 6, .slen (.t 5), none⟩,
    ⟨some 7, .bin .sub (.t 6) (.k (.int .i64 4)), none⟩,
    ⟨some 4, .mv (.t 7), none⟩] [0, 4] [])
  (.seq (.seq (.regd [⟨some 8, .mv (.t 4), none⟩,
    ⟨some 9, .bin .lss (.t 8) (.k (.int .i64 0)), none⟩,
    ⟨some 10, .mv (.t 9), none⟩,
    ⟨some 11, .mv (.t 4), some (10, false)⟩,
    ⟨some 12, .bin .gtr (.t 11) (.k (.int .i64 20000)), some (10, false)⟩,
    ⟨some 13, .pick (.t 10) (.k (.bool true)) (.t 12), none⟩,
    ⟨some 14, .mv (.t 13), none⟩,
    ⟨some 15, .mv (.t 0), some (14, false)⟩,
    ⟨some 16, .mv (.t 4), some (14, false)⟩,
    ⟨some 17, .sstr (.t 15) (some (.t 16)) none, some (14, false)⟩,
    ⟨some 18, .mv (.t 0), some (14, false)⟩,
    ⟨some 19, .mv (.t 4), some (14, false)⟩,
    ⟨some 20, .sstr (.t 18) none (some (.t 19)), some (14, false)⟩,
    ⟨some 21, .call 201 [.t 20] [] [], some (14, false)⟩,
    ⟨some 22, .call 202 [.t 21] [] [], some (14, false)⟩,
    ⟨some 23, .bin .neq (.t 17) (.t 22), some (14, false)⟩,
    ⟨some 24, .pick (.t 14) (.k (.bool true)) (.t 23), none⟩] [[], [0], [0, 1], [0, 1, 2], [0, 1, 2, 3], [0, 1, 2, 3, 4], [0, 1, 2, 3, 4, 5], [0, 1, 2, 3, 4, 5, 6], [0, 1, 2, 3, 4, 5, 6], [0, 1, 2, 3, 4, 5, 6, 7, 8], [0, 1, 2, 3, 4, 5, 6], [0, 1, 2, 3, 4, 5, 6], [0, 1, 2, 3, 4, 5, 6, 10, 11], [0, 1, 2, 3, 4, 5, 6, 10, 11, 12], [0, 1, 2, 3, 4, 5, 6, 10, 11, 12, 13], [0, 1, 2, 3, 4, 5, 6, 7, 8, 9, 10, 11, 12, 13, 14], [0, 1, 2, 3, 4, 5, 6, 7, 8, 9, 10, 11, 12, 13, 14, 15]] [0, 4, 24] [])
  (.cond (.t 24) (.seq (.reg [⟨some 2, .mv (.k (.str ⟨#[]⟩)), none⟩,
    ⟨some 3, .mv (.k (.bool false)), none⟩] [2, 3] [])
  (.ret)) (.skip)))
  (.seq (.reg [⟨some 25, .mv (.t 0), none⟩,
    ⟨some 26, .mv (.t 4), none⟩,
    ⟨some 27, .sstr (.t 25) none (some (.t 26)), none⟩,
    ⟨some 2, .mv (.t 27), none⟩,
    ⟨some 3, .mv (.k (.bool true)), none⟩] [2, 3] [])
  (.ret))))
def spec_Unsealed.m : Fn := { np := 1, body := spec_Unsealed.b, res := [.tmp 2, .tmp 3] }
def spec_Unsealed.k (M : Nat → Option Body) : Prop := M 167 = some (.code spec_Unsealed.m) ∧ spec_SumOf.k M ∧ spec_l02Four.k M
def impl_fourAt.b : C := .seq (.reg [⟨some 4, .mv (.k (.int .i64 0)), none⟩] [0, 1] [])
  (.seq (.regd [⟨some 5, .mv (.t 0), none⟩,
    ⟨some 6, .mv (.t 1), none⟩,
    ⟨some 7, .idx (.t 5) (.t 6), none⟩,
    ⟨some 8, .i2i .i64 (.t 7), none⟩,
    ⟨some 9, .bin .shl (.t 8) (.k (.int .u64 24)), none⟩,
    ⟨some 10, .mv (.t 0), none⟩,
    ⟨some 11, .mv (.t 1), none⟩,
    ⟨some 12, .bin .add (.t 11) (.k (.int .i64 1)), none⟩,
    ⟨some 13, .idx (.t 10) (.t 12), none⟩,
    ⟨some 14, .i2i .i64 (.t 13), none⟩,
    ⟨some 15, .bin .shl (.t 14) (.k (.int .u64 16)), none⟩,
    ⟨some 16, .bin .or (.t 9) (.t 15), none⟩,
    ⟨some 17, .mv (.t 0), none⟩,
    ⟨some 18, .mv (.t 1), none⟩,
    ⟨some 19, .bin .add (.t 18) (.k (.int .i64 2)), none⟩,
    ⟨some 20, .idx (.t 17) (.t 19), none⟩,
    ⟨some 21, .i2i .i64 (.t 20), none⟩,
    ⟨some 22, .bin .shl (.t 21) (.k (.int .u64 8)), none⟩,
    ⟨some 23, .bin .or (.t 16) (.t 22), none⟩,
    ⟨some 24, .mv (.t 0), none⟩,
    ⟨some 25, .mv (.t 1), none⟩,
    ⟨some 26, .bin .add (.t 25) (.k (.int .i64 3)), none⟩,
    ⟨some 27, .idx (.t 24) (.t 26), none⟩,
    ⟨some 28, .i2i .i64 (.t 27), none⟩,
    ⟨some 29, .bin .or (.t 23) (.t 28), none⟩,
    ⟨some 4, .mv (.t 29), none⟩] [[], [], [0, 1], [0, 1, 2], [0, 1, 2, 3], [], [], [6], [5, 6, 7], [5, 6, 7, 8], [5, 6, 7, 8, 9], [0, 1, 2, 3, 4, 5, 6, 7, 8, 9, 10], [], [], [13], [12, 13, 14], [12, 13, 14, 15], [12, 13, 14, 15, 16], [0, 1, 2, 3, 4, 5, 6, 7, 8, 9, 10, 11, 12, 13, 14, 15, 16, 17], [], [], [20], [19, 20, 21], [19, 20, 21, 22], [0, 1, 2, 3, 4, 5, 6, 7, 8, 9, 10, 11, 12, 13, 14, 15, 16, 17, 18, 19, 20, 21, 22, 23], [0, 1, 2, 3, 4, 5, 6, 7, 8, 9, 10, 11, 12, 13, 14, 15, 16, 17, 18, 19, 20, 21, 22, 23, 24]] [4] [])
  (.ret))
def impl_fourAt.m : Fn := { np := 2, body := impl_fourAt.b, res := [.tmp 4] }
def impl_fourAt.k (M : Nat → Option Body) : Prop := M 236 = some (.code impl_fourAt.m)
def impl_Unsealed.b : C := .seq (.reg [⟨some 2, .mv (.k (.str ⟨#[]⟩)), none⟩,
    ⟨some 3, .mv (.k (.bool false)), none⟩] [0] [])
  (.seq (.reg [⟨some 5, .mv (.t 0), none⟩,
    ⟨some 6, .slen (.t 5), none⟩,
    ⟨some 7, .bin .sub (.t 6) (.k (.int .i64 4)), none⟩,
    ⟨some 4, .mv (.t 7), none⟩] [0, 4] [])
  (.seq (.seq (.reg [⟨some 8, .mv (.t 4), none⟩,
    ⟨some 9, .call 101 [.t 8, .k (.int .i64 0), .k (.int .i64 20000)] [] [], none⟩,
    ⟨some 10, .not (.t 9), none⟩,
    ⟨some 11, .mv (.t 10), none⟩,
    ⟨some 12, .mv (.t 0), some (11, false)⟩,
    ⟨some 13, .mv (.t 4), some (11, false)⟩,
    ⟨some 14, .sstr (.t 12) none (some (.t 13)), some (11, false)⟩,
    ⟨some 15, .call 203 [.t 14] [] [], some (11, false)⟩,
    ⟨some 16, .i2i .i64 (.t 15), some (11, false)⟩,
    ⟨some 17, .mv (.t 0), some (11, false)⟩,
    ⟨some 18, .mv (.t 4), some (11, false)⟩,
    ⟨some 19, .call 236 [.t 17, .t 18] [] [], some (11, false)⟩,
    ⟨some 20, .bin .neq (.t 16) (.t 19), some (11, false)⟩,
    ⟨some 21, .pick (.t 11) (.k (.bool true)) (.t 20), none⟩] [0, 4, 21] [])
  (.cond (.t 21) (.seq (.reg [⟨some 2, .mv (.k (.str ⟨#[]⟩)), none⟩,
    ⟨some 3, .mv (.k (.bool false)), none⟩] [2, 3] [])
  (.ret)) (.skip)))
  (.seq (.reg [⟨some 22, .mv (.t 0), none⟩,
    ⟨some 23, .mv (.t 4), none⟩,
    ⟨some 24, .sstr (.t 22) none (some (.t 23)), none⟩,
    ⟨some 2, .mv (.t 24), none⟩,
    ⟨some 3, .mv (.k (.bool true)), none⟩] [2, 3] [])
  (.ret))))
def impl_Unsealed.m : Fn := { np := 1, body := impl_Unsealed.b, res := [.tmp 2, .tmp 3] }
def impl_Unsealed.k (M : Nat → Option Body) : Prop := M 168 = some (.code impl_Unsealed.m) ∧ impl_within.k M ∧ impl_SumOf.k M ∧ impl_fourAt.k M
end Mx

/-
  Sums over bytes, four bytes of a number; what Sealed answers.
-/
namespace Mx
open Go
variable {M : Nat → Option Body}
abbrev U32 (n : Int) : T := .int .u32 n

/-- one bit more -/
def half (x : Int) : Int := if x % 2 = 1 then xorI .u32 (x / 2) 3558460437 else x / 2
def halfN : Nat → Int → Int
  | 0, x => x
  | n + 1, x => halfN n (half x)
def sumByte (x : Int) (b : UInt8) : Int := halfN 8 (xorI .u32 x b.toNat)
def sumMore (x : Int) (l : List UInt8) : Int := l.foldl sumByte x
def sumOf (l : List UInt8) : Int := sumMore 4294967295 l
def in32 (x : Int) : Prop := 0 ≤ x ∧ x < 4294967296
theorem xor_in (x y : Int) : in32 (xorI .u32 x y) := by
  unfold xorI in32; rw [wrap_u32]; omega
theorem half_in {x : Int} (h : in32 x) : in32 (half x) := by
  unfold half; split
  · exact xor_in _ _
  · unfold in32 at *; omega
theorem halfN_in : ∀ (n : Nat) {x : Int}, in32 x → in32 (halfN n x)
  | 0, _, h => h
  | n + 1, _, h => halfN_in n (half_in h)
theorem sumMore_in : ∀ (l : List UInt8) {x : Int}, in32 x → in32 (sumMore x l)
  | [], _, h => h
  | b :: l, x, h => by
    show in32 (sumMore (sumByte x b) l)
    exact sumMore_in l (halfN_in 8 (xor_in _ _))
theorem sumOf_in (l : List UInt8) : in32 (sumOf l) := sumMore_in l ⟨by decide, by decide⟩

/-! ## the inner loops -/
def spH (l : List UInt8) (j : Nat) (s : Nat × Int) (x : Nat) : St := { t := [(0, .c (U32 s.2)), (1, .c (S l)), (5, .c (I j)), (6, .c (I s.1))], o := [], n := x }
theorem tmod2 {x : Int} (h : 0 ≤ x) : x.tmod 2 = x % 2 := Int.tmod_eq_emod_of_nonneg h
theorem tdiv2 {x : Int} (h : 0 ≤ x) : x.tdiv 2 = x / 2 := Int.tdiv_eq_ediv_of_nonneg h
theorem spec_SumMore.inner (cf : CallF) (k : Nat) (l : List UInt8) (j : Nat) (x0 : Int) (h0 : in32 x0) : ∀ m, 8 < m → ∃ g : Nat → Nat, ∀ x, loopN (exC cf k spec_SumMore.l1) m (spH l j (0, x0) x) =
    some (.exit 2, { t := [(0, .c (U32 (halfN 8 x0))), (1, .c (S l)), (5, .c (I j)), (6, .c (I 8)), (21, .c (.bool false))], o := [], n := g x }) := by
  intro m hm
  exact loop_all (f := exC cf k spec_SumMore.l1) (spH l j) (fun s => s.1 ≤ 8 ∧ in32 s.2) (fun s => 8 - s.1) (fun s => halfN (8 - s.1) s.2)
    (fun q m => (.exit 2, { t := [(0, .c (U32 q)), (1, .c (S l)), (5, .c (I j)), (6, .c (I 8)), (21, .c (.bool false))], o := [], n := m }))
    (by
      rintro ⟨i, y⟩ x ⟨h1, h2⟩
      simp only at h1 h2
      by_cases hlt : i < 8
      · have e5 : IntKind.i64.wrap ((i : Int) + 1) = (i : Int) + 1 := wrap_i64 (by omega) (by omega)
        have e0 : (i : Int) < 8 := by omega
        have e1 := tmod2 h2.1
        have e2 := tdiv2 h2.1
        have e3 : IntKind.u32.wrap (y / 2) = y / 2 := by rw [wrap_u32]; have := h2.2; have := h2.1; omega
        have hd : 8 - i = (8 - (i + 1)) + 1 := by omega
        left
        obtain ⟨z, hz⟩ : ∃ z, exC cf k spec_SumMore.l1 (spH l j (i, y) x) = some (.normal, spH l j (i + 1, half y) z) := by
          by_cases c : y % 2 = 1
          · simp [spH, spec_SumMore.l1, e0, e5, e1, e2, e3, c, half]
          · simp [spH, spec_SumMore.l1, e0, e5, e1, e2, e3, c, half]
        exact ⟨(i + 1, half y), z, hz, ⟨hlt, half_in h2⟩, by simp only; omega, by simp only [hd]; rfl⟩
      · have : i = 8 := by omega
        subst this
        exact .inr ⟨x + 32, by simp [spH, spec_SumMore.l1, halfN], by simp⟩)
    m (0, x0) ⟨by simp, h0⟩ (by simp; omega)

theorem and1 {x : Int} (h : in32 x) : andI .u32 x 1 = x % 2 := by
  obtain ⟨n, rfl⟩ := Int.eq_ofNat_of_zero_le h.1
  have h2 : n < 4294967296 := by have := h.2; omega
  rw [andI_eq, wrap_u32]
  have e1 : ((n : Int) % ((2 ^ IntKind.u32.bits : Nat) : Int)).toNat = n := by
    show ((n : Int) % 4294967296).toNat = n
    omega
  have e2 : ((1 : Int) % ((2 ^ IntKind.u32.bits : Nat) : Int)).toNat = 1 := by decide
  rw [e1, e2, Nat.and_one_is_mod]; omega
def imH (l : List UInt8) (j : Nat) (s : Nat × Int) (x : Nat) : St := { t := [(0, .c (U32 s.2)), (1, .c (S l)), (5, .c (I j)), (19, .c (I s.1))], o := [], n := x }
theorem impl_SumMore.inner (cf : CallF) (k : Nat) (l : List UInt8) (j : Nat) (x0 : Int) (h0 : in32 x0) : ∀ m, 8 < m → ∃ g : Nat → Nat, ∀ x, loopN (exC cf k impl_SumMore.l1) m (imH l j (0, x0) x) =
    some (.exit 2, { t := [(0, .c (U32 (halfN 8 x0))), (1, .c (S l)), (5, .c (I j)), (19, .c (I 8)), (20, .c (.bool false))], o := [], n := g x }) := by
  intro m hm
  exact loop_all (f := exC cf k impl_SumMore.l1) (imH l j) (fun s => s.1 ≤ 8 ∧ in32 s.2) (fun s => 8 - s.1) (fun s => halfN (8 - s.1) s.2)
    (fun q m => (.exit 2, { t := [(0, .c (U32 q)), (1, .c (S l)), (5, .c (I j)), (19, .c (I 8)), (20, .c (.bool false))], o := [], n := m }))
    (by
      rintro ⟨i, y⟩ x ⟨h1, h2⟩
      simp only at h1 h2
      by_cases hlt : i < 8
      · have e5 : IntKind.i64.wrap ((i : Int) + 1) = (i : Int) + 1 := wrap_i64 (by omega) (by omega)
        have e0 : (i : Int) < 8 := by omega
        have e1 := and1 h2
        have e2 : y.fdiv 2 = y / 2 := Int.fdiv_eq_ediv_of_nonneg _ (by omega)
        have hd : 8 - i = (8 - (i + 1)) + 1 := by omega
        left
        obtain ⟨z, hz⟩ : ∃ z, exC cf k impl_SumMore.l1 (imH l j (i, y) x) = some (.normal, imH l j (i + 1, half y) z) := by
          by_cases c : y % 2 = 1
          · simp [imH, impl_SumMore.l1, e0, e5, e1, e2, c, half, IntKind.bits]
          · simp [imH, impl_SumMore.l1, e0, e5, e1, e2, c, half, IntKind.bits]
        exact ⟨(i + 1, half y), z, hz, ⟨hlt, half_in h2⟩, by simp only; omega, by simp only [hd]; rfl⟩
      · have : i = 8 := by omega
        subst this
        exact .inr ⟨x + 16, by simp [imH, impl_SumMore.l1, halfN], by simp⟩)
    m (0, x0) ⟨by simp, h0⟩ (by simp; omega)

/-! ## the sums -/
theorem u8_u32 (b : UInt8) : IntKind.u32.wrap (b.toNat : Int) = b.toNat := by
  rw [wrap_u32]; have := b.toNat_lt; omega
def spSum (l : List UInt8) (s : Nat × Int) (x : Nat) : St := { t := [(0, .c (U32 s.2)), (1, .c (S l)), (5, .c (I s.1))], o := [], n := x }
theorem spec_SumMore.says (h : spec_SumMore.k M) (l : List UInt8) (hl : l.length ≤ 4611686018427387904) (x0 : Int) (h0 : in32 x0) : run M 248 [.c (U32 x0), .c (S l)] [] = some (.c (U32 (sumMore x0 l)), []) := by
  refine run_code (b := spec_SumMore.m) h ⟨l.length + 9, ?_⟩
  obtain ⟨g, hr⟩ := loop_all (f := exC (run M) (l.length + 9) spec_SumMore.l0) (spSum l) (fun s => s.1 ≤ l.length ∧ in32 s.2) (fun s => l.length - s.1) (fun s => sumMore s.2 (l.drop s.1))
    (fun q m => (.exit 0, { t := [(0, .c (U32 q)), (1, .c (S l)), (5, .c (I l.length)), (11, .c (.bool false))], o := [], n := m }))
    (by
      rintro ⟨i, y⟩ x ⟨h1, h2⟩
      simp only at h1 h2
      by_cases hlt : i < l.length
      · have e5 : IntKind.i64.wrap ((i : Int) + 1) = (i : Int) + 1 := wrap_i64 (by omega) (by omega)
        have e6 := u8_u32 l[i]
        obtain ⟨g1, hg⟩ := spec_SumMore.inner (run M) (l.length + 9) l i (xorI .u32 y l[i].toNat) (xor_in _ _) (l.length + 9) (by omega)
        simp [spH] at hg
        left
        obtain ⟨z, hz⟩ : ∃ z, exC (run M) (l.length + 9) spec_SumMore.l0 (spSum l (i, y) x) = some (.normal, spSum l (i + 1, sumByte y l[i]) z) := by
          simp [spSum, spec_SumMore.l0, hlt, bs_get, e5, e6, hg, sumByte]
        refine ⟨(i + 1, sumByte y l[i]), z, hz, ⟨hlt, halfN_in 8 (xor_in _ _)⟩, by simp only; omega, ?_⟩
        simp only [List.drop_eq_getElem_cons hlt]; rfl
      · have : i = l.length := by omega
        subst this
        exact .inr ⟨x + 64, by simp [spSum, spec_SumMore.l0, sumMore], by simp⟩)
    (l.length + 9) (0, x0) ⟨Nat.zero_le _, h0⟩ (by simp)
  simp [spSum] at hr
  simp [exB, spec_SumMore.m, spec_SumMore.b, List.range_succ, hr]
theorem impl_SumMore.says (h : impl_SumMore.k M) (l : List UInt8) (hl : l.length ≤ 4611686018427387904) (x0 : Int) (h0 : in32 x0) : run M 249 [.c (U32 x0), .c (S l)] [] = some (.c (U32 (sumMore x0 l)), []) := by
  refine run_code (b := impl_SumMore.m) h ⟨l.length + 9, ?_⟩
  obtain ⟨g, hr⟩ := loop_all (f := exC (run M) (l.length + 9) impl_SumMore.l0) (spSum l) (fun s => s.1 ≤ l.length ∧ in32 s.2) (fun s => l.length - s.1) (fun s => sumMore s.2 (l.drop s.1))
    (fun q m => (.exit 0, { t := [(0, .c (U32 q)), (1, .c (S l)), (5, .c (I l.length)), (10, .c (.bool false))], o := [], n := m }))
    (by
      rintro ⟨i, y⟩ x ⟨h1, h2⟩
      simp only at h1 h2
      by_cases hlt : i < l.length
      · have e5 : IntKind.i64.wrap ((i : Int) + 1) = (i : Int) + 1 := wrap_i64 (by omega) (by omega)
        have e6 := u8_u32 l[i]
        obtain ⟨g1, hg⟩ := impl_SumMore.inner (run M) (l.length + 9) l i (xorI .u32 y l[i].toNat) (xor_in _ _) (l.length + 9) (by omega)
        simp [imH] at hg
        left
        obtain ⟨z, hz⟩ : ∃ z, exC (run M) (l.length + 9) impl_SumMore.l0 (spSum l (i, y) x) = some (.normal, spSum l (i + 1, sumByte y l[i]) z) := by
          simp [spSum, impl_SumMore.l0, hlt, bs_get, e5, e6, hg, sumByte]
        refine ⟨(i + 1, sumByte y l[i]), z, hz, ⟨hlt, halfN_in 8 (xor_in _ _)⟩, by simp only; omega, ?_⟩
        simp only [List.drop_eq_getElem_cons hlt]; rfl
      · have : i = l.length := by omega
        subst this
        exact .inr ⟨x + 64, by simp [spSum, impl_SumMore.l0, sumMore], by simp⟩)
    (l.length + 9) (0, x0) ⟨Nat.zero_le _, h0⟩ (by simp)
  simp [spSum] at hr
  simp [exB, impl_SumMore.m, impl_SumMore.b, List.range_succ, hr]
theorem spec_SumOf.says (h : spec_SumOf.k M) (l : List UInt8) (hl : l.length ≤ 4611686018427387904) : run M 201 [.c (S l)] [] = some (.c (U32 (sumOf l)), []) := by
  have h1 := spec_SumMore.says h.2 l hl 4294967295 ⟨by decide, by decide⟩
  refine run_code (b := spec_SumOf.m) h.1 ⟨0, ?_⟩
  simp [exB, spec_SumOf.m, spec_SumOf.b, List.range_succ, h1, sumOf]
theorem impl_SumOf.says (h : impl_SumOf.k M) (l : List UInt8) (hl : l.length ≤ 4611686018427387904) : run M 203 [.c (S l)] [] = some (.c (U32 (sumOf l)), []) := by
  have h1 := impl_SumMore.says h.2 l hl 4294967295 ⟨by decide, by decide⟩
  refine run_code (b := impl_SumOf.m) h.1 ⟨0, ?_⟩
  simp [exB, impl_SumOf.m, impl_SumOf.b, List.range_succ, h1, sumOf]

/-! ## four bytes -/
def byteOf (x : Int) : UInt8 := UInt8.ofNat (x % 256).toNat
def four (x : Int) : List UInt8 := [byteOf (x / 16777216), byteOf (x / 65536), byteOf (x / 256), byteOf x]
theorem four_len (x : Int) : (four x).length = 4 := rfl
theorem spec_l02Four.says (h : spec_l02Four.k M) (x : Int) : run M 202 [.c (U32 x)] [] = some (.c (S (four x)), []) := by
  refine run_code (b := spec_l02Four.m) h ⟨0, ?_⟩
  have e1 : x.fdiv 16777216 = x / 16777216 := Int.fdiv_eq_ediv_of_nonneg _ (by omega)
  have e2 : x.fdiv 65536 = x / 65536 := Int.fdiv_eq_ediv_of_nonneg _ (by omega)
  have e3 : x.fdiv 256 = x / 256 := Int.fdiv_eq_ediv_of_nonneg _ (by omega)
  simp [exB, spec_l02Four.m, spec_l02Four.b, List.range_succ, IntKind.bits, e1, e2, e3, rowsBytes, four, byteOf, wrap_u8]
theorem impl_four.says (h : impl_four.k M) (x : Int) : run M 204 [.c (I x)] [] = some (.c (S (four x)), []) := by
  refine run_code (b := impl_four.m) h ⟨0, ?_⟩
  have e1 : x.fdiv 16777216 = x / 16777216 := Int.fdiv_eq_ediv_of_nonneg _ (by omega)
  have e2 : x.fdiv 65536 = x / 65536 := Int.fdiv_eq_ediv_of_nonneg _ (by omega)
  have e3 : x.fdiv 256 = x / 256 := Int.fdiv_eq_ediv_of_nonneg _ (by omega)
  simp [exB, impl_four.m, impl_four.b, List.range_succ, IntKind.bits, e1, e2, e3, rowsBytes, four, byteOf, wrap_u8]

def sealed (l : List UInt8) : List UInt8 × Bool := if 20000 < l.length then ([], false) else (l ++ four (sumOf l), true)
theorem spec_Sealed.says (h : spec_Sealed.k M) (l : List UInt8) (hl : l.length ≤ 4611686018427387904) : run M 100 [.c (S l)] [] = some (.tup [.c (S (sealed l).1), .c (.bool (sealed l).2)], []) := by
  have h1 := spec_SumOf.says h.2.1 l hl
  have h2 := spec_l02Four.says h.2.2 (sumOf l)
  refine run_code (b := spec_Sealed.m) h.1 ⟨0, ?_⟩
  by_cases c : 20000 < l.length
  · have c' : 20000 < (l.length : Int) := by omega
    simp [exB, spec_Sealed.m, spec_Sealed.b, List.range_succ, sealed, c, c']
  · have c' : ¬ 20000 < (l.length : Int) := by omega
    have e := four_len (sumOf l)
    simp (disch := (first | omega | (simp; done) | (simp; omega))) [exB, spec_Sealed.m, spec_Sealed.b, List.range_succ, sealed, c, c', h1, h2, str_add, e]
theorem impl_Sealed.says (h : impl_Sealed.k M) (l : List UInt8) (hl : l.length ≤ 4611686018427387904) : run M 103 [.c (S l)] [] = some (.tup [.c (S (sealed l).1), .c (.bool (sealed l).2)], []) := by
  have h1 := impl_SumOf.says h.2.1 l hl
  have h2 := impl_four.says h.2.2 (sumOf l)
  refine run_code (b := impl_Sealed.m) h.1 ⟨0, ?_⟩
  by_cases c : 20000 < l.length
  · have c' : 20000 < (l.length : Int) := by omega
    simp [exB, impl_Sealed.m, impl_Sealed.b, List.range_succ, sealed, c, c']
  · have c' : ¬ 20000 < (l.length : Int) := by omega
    have e := four_len (sumOf l)
    have hin := sumOf_in l
    have e2 : IntKind.i64.wrap (sumOf l) = sumOf l := wrap_i64 (by have := hin.1; omega) (by have := hin.2; omega)
    simp (disch := (first | omega | (simp; done) | (simp; omega))) [exB, impl_Sealed.m, impl_Sealed.b, List.range_succ, sealed, c, c', h1, h2, str_add, e, e2]
end Mx

/-
  Small codes: spec.l01Var, impl.VarText, impl.ShortText, spec.ReadVar, impl.ReadVar, spec.ReadShort, impl.ReadShort, impl.short, impl.vars.
-/
namespace Mx
open Go
def spec_l01Var.l0 : C := .seq (.seq (.reg [⟨some 5, .mv (.t 0), none⟩,
    ⟨some 6, .bin .gtr (.t 5) (.k (.int .i64 127)), none⟩] [0, 3, 6] [4, 13])
  (.cond (.t 6) (.skip) (.exit 0)))
  (.block 1 (.seq (.reg [⟨some 7, .mv (.t 3), none⟩,
    ⟨some 8, .mv (.t 0), none⟩,
    ⟨some 9, .bin .rem (.t 8) (.k (.int .i64 128)), none⟩,
    ⟨some 10, .bin .add (.t 9) (.k (.int .i64 128)), none⟩,
    ⟨some 11, .i2i .u8 (.t 10), none⟩,
    ⟨some 12, .bslice 1 1 [.int .u8 0] [(0, .t 11)], none⟩,
    ⟨some 13, .app 1 1 (.t 7) (.t 12), none⟩,
    ⟨some 3, .mv (.t 13), none⟩] [0, 3] [4, 13])
  (.reg [⟨some 14, .mv (.t 0), none⟩,
    ⟨some 15, .bin .quo (.t 14) (.k (.int .i64 128)), none⟩,
    ⟨some 0, .mv (.t 15), none⟩] [0, 3] [4, 13])))
def spec_l01Var.b : C := .seq (.reg [⟨some 2, .mv (.k (.str ⟨#[]⟩)), none⟩] [0] [])
  (.seq (.reg [⟨some 4, .bslice 1 0 [.int .u8 0] [], none⟩,
    ⟨some 3, .mv (.t 4), none⟩] [0, 3] [4, 13])
  (.seq (.block 0 (.loop spec_l01Var.l0))
  (.seq (.reg [⟨some 16, .mv (.t 3), none⟩,
    ⟨some 17, .mv (.t 0), none⟩,
    ⟨some 18, .i2i .u8 (.t 17), none⟩,
    ⟨some 19, .bslice 1 1 [.int .u8 0] [(0, .t 18)], none⟩,
    ⟨some 20, .app 1 1 (.t 16) (.t 19), none⟩,
    ⟨some 21, .b2s (.t 20), none⟩,
    ⟨some 2, .mv (.t 21), none⟩] [2] [])
  (.ret))))
def spec_l01Var.m : Fn := { np := 1, body := spec_l01Var.b, res := [.tmp 2] }
def spec_l01Var.k (M : Nat → Option Body) : Prop := M 99 = some (.code spec_l01Var.m)
def impl_VarText.l0 : C := .seq (.seq (.reg [⟨some 9, .mv (.t 0), none⟩,
    ⟨some 10, .bin .gtr (.t 9) (.k (.int .i64 127)), none⟩] [0, 4, 10] [8, 17])
  (.cond (.t 10) (.skip) (.exit 0)))
  (.block 1 (.seq (.reg [⟨some 11, .mv (.t 4), none⟩,
    ⟨some 12, .mv (.t 0), none⟩,
    ⟨some 13, .bin .and (.t 12) (.k (.int .i64 127)), none⟩,
    ⟨some 14, .bin .or (.t 13) (.k (.int .i64 128)), none⟩,
    ⟨some 15, .i2i .u8 (.t 14), none⟩,
    ⟨some 16, .bslice 1 1 [.int .u8 0] [(0, .t 15)], none⟩,
    ⟨some 17, .app 1 1 (.t 11) (.t 16), none⟩,
    ⟨some 4, .mv (.t 17), none⟩] [0, 4] [8, 17])
  (.reg [⟨some 18, .mv (.t 0), none⟩,
    ⟨some 19, .bin .shr (.t 18) (.k (.int .u64 7)), none⟩,
    ⟨some 0, .mv (.t 19), none⟩] [0, 4] [8, 17])))
def impl_VarText.b : C := .seq (.reg [⟨some 2, .mv (.k (.str ⟨#[]⟩)), none⟩,
    ⟨some 3, .mv (.k (.bool false)), none⟩] [0] [])
  (.seq (.seq (.reg [⟨some 5, .mv (.t 0), none⟩,
    ⟨some 6, .call 101 [.t 5, .k (.int .i64 0), .k (.int .i64 1000000000)] [] [], none⟩,
    ⟨some 7, .not (.t 6), none⟩] [0, 7] [])
  (.cond (.t 7) (.seq (.reg [⟨some 2, .mv (.k (.str ⟨#[]⟩)), none⟩,
    ⟨some 3, .mv (.k (.bool false)), none⟩] [2, 3] [])
  (.ret)) (.skip)))
  (.seq (.reg [⟨some 8, .bslice 1 0 [.int .u8 0] [], none⟩,
    ⟨some 4, .mv (.t 8), none⟩] [0, 4] [8, 17])
  (.seq (.block 0 (.loop impl_VarText.l0))
  (.seq (.reg [⟨some 20, .mv (.t 4), none⟩,
    ⟨some 21, .mv (.t 0), none⟩,
    ⟨some 22, .i2i .u8 (.t 21), none⟩,
    ⟨some 23, .bslice 1 1 [.int .u8 0] [(0, .t 22)], none⟩,
    ⟨some 24, .app 1 1 (.t 20) (.t 23), none⟩,
    ⟨some 25, .b2s (.t 24), none⟩,
    ⟨some 2, .mv (.t 25), none⟩,
    ⟨some 3, .mv (.k (.bool true)), none⟩] [2, 3] [])
  (.ret)))))
def impl_VarText.m : Fn := { np := 1, body := impl_VarText.b, res := [.tmp 2, .tmp 3] }
def impl_VarText.k (M : Nat → Option Body) : Prop := M 230 = some (.code impl_VarText.m) ∧ impl_within.k M
def impl_ShortText.b : C := .seq (.reg [⟨some 2, .mv (.k (.str ⟨#[]⟩)), none⟩,
    ⟨some 3, .mv (.k (.bool false)), none⟩] [0] [])
  (.seq (.seq (.reg [⟨some 6, .mv (.t 0), none⟩,
    ⟨some 7, .slen (.t 6), none⟩,
    ⟨some 8, .bin .gtr (.t 7) (.k (.int .i64 20000)), none⟩] [0, 8] [])
  (.cond (.t 8) (.seq (.reg [⟨some 2, .mv (.k (.str ⟨#[]⟩)), none⟩,
    ⟨some 3, .mv (.k (.bool false)), none⟩] [2, 3] [])
  (.ret)) (.skip)))
  (.seq (.reg [⟨some 10, .mv (.t 0), none⟩,
    ⟨some 11, .slen (.t 10), none⟩,
    ⟨some 12, .call 230 [.t 11] [] [], none⟩,
    ⟨some 9, .mv (.t 12), none⟩,
    ⟨some 13, .ext 0 (.t 9), none⟩,
    ⟨some 14, .ext 1 (.t 9), none⟩,
    ⟨some 4, .mv (.t 13), none⟩,
    ⟨some 5, .mv (.t 14), none⟩] [0, 4] [])
  (.seq (.reg [⟨some 15, .mv (.t 4), none⟩,
    ⟨some 16, .mv (.t 0), none⟩,
    ⟨some 17, .bin .add (.t 15) (.t 16), none⟩,
    ⟨some 2, .mv (.t 17), none⟩,
    ⟨some 3, .mv (.k (.bool true)), none⟩] [2, 3] [])
  (.ret))))
def impl_ShortText.m : Fn := { np := 1, body := impl_ShortText.b, res := [.tmp 2, .tmp 3] }
def impl_ShortText.k (M : Nat → Option Body) : Prop := M 205 = some (.code impl_ShortText.m) ∧ impl_VarText.k M
def spec_ReadVar.l0 : C := .seq (.seq (.reg [⟨some 16, .mv (.t 9), none⟩,
    ⟨some 17, .mv (.t 0), none⟩,
    ⟨some 18, .slen (.t 17), none⟩,
    ⟨some 19, .bin .lss (.t 16) (.t 18), none⟩,
    ⟨some 20, .mv (.t 19), none⟩,
    ⟨some 21, .mv (.t 9), some (20, true)⟩,
    ⟨some 22, .mv (.t 1), some (20, true)⟩,
    ⟨some 23, .bin .add (.t 22) (.k (.int .i64 5)), some (20, true)⟩,
    ⟨some 24, .bin .lss (.t 21) (.t 23), some (20, true)⟩,
    ⟨some 25, .pick (.t 20) (.t 24) (.k (.bool false)), none⟩] [0, 1, 7, 8, 9, 25] [])
  (.cond (.t 25) (.skip) (.exit 0)))
  (.seq (.block 1 (.seq (.reg [⟨some 28, .mv (.t 7), none⟩,
    ⟨some 29, .mv (.t 0), none⟩,
    ⟨some 30, .mv (.t 9), none⟩,
    ⟨some 31, .idx (.t 29) (.t 30), none⟩,
    ⟨some 32, .i2i .i64 (.t 31), none⟩,
    ⟨some 33, .bin .rem (.t 32) (.k (.int .i64 128)), none⟩,
    ⟨some 34, .mv (.t 8), none⟩,
    ⟨some 35, .bin .mul (.t 33) (.t 34), none⟩,
    ⟨some 36, .bin .add (.t 28) (.t 35), none⟩,
    ⟨some 7, .mv (.t 36), none⟩] [0, 1, 7, 8, 9] [])
  (.seq (.reg [⟨some 37, .mv (.t 8), none⟩,
    ⟨some 38, .bin .mul (.t 37) (.k (.int .i64 128)), none⟩,
    ⟨some 8, .mv (.t 38), none⟩] [0, 1, 7, 8, 9] [])
  (.seq (.reg [⟨some 39, .mv (.t 0), none⟩,
    ⟨some 40, .mv (.t 9), none⟩,
    ⟨some 41, .idx (.t 39) (.t 40), none⟩,
    ⟨some 42, .bin .lss (.t 41) (.k (.int .u8 128)), none⟩] [0, 1, 7, 8, 9, 42] [])
  (.cond (.t 42) (.seq (.seq (.regd [⟨some 43, .mv (.t 7), none⟩,
    ⟨some 44, .bin .gtr (.t 43) (.k (.int .i64 1000000000)), none⟩,
    ⟨some 45, .mv (.t 44), none⟩,
    ⟨some 46, .mv (.t 7), some (45, false)⟩,
    ⟨some 47, .call 99 [.t 46] [] [], some (45, false)⟩,
    ⟨some 48, .mv (.t 0), some (45, false)⟩,
    ⟨some 49, .mv (.t 1), some (45, false)⟩,
    ⟨some 50, .mv (.t 9), some (45, false)⟩,
    ⟨some 51, .bin .add (.t 50) (.k (.int .i64 1)), some (45, false)⟩,
    ⟨some 52, .sstr (.t 48) (some (.t 49)) (some (.t 51)), some (45, false)⟩,
    ⟨some 53, .bin .neq (.t 47) (.t 52), some (45, false)⟩,
    ⟨some 54, .pick (.t 45) (.k (.bool true)) (.t 53), none⟩] [[], [0], [0, 1], [0, 1, 2], [0, 1, 2, 3], [0, 1, 2], [0, 1, 2], [0, 1, 2], [0, 1, 2, 7], [0, 1, 2, 5, 6, 7, 8], [0, 1, 2, 3, 4, 5, 6, 7, 8, 9], [0, 1, 2, 3, 4, 5, 6, 7, 8, 9, 10]] [7, 9, 54] [])
  (.cond (.t 54) (.seq (.reg [⟨some 4, .mv (.k (.int .i64 0)), none⟩,
    ⟨some 5, .mv (.k (.int .i64 0)), none⟩,
    ⟨some 6, .mv (.k (.bool false)), none⟩] [4, 5, 6] [])
  (.ret)) (.skip)))
  (.seq (.reg [⟨some 55, .mv (.t 7), none⟩,
    ⟨some 56, .mv (.t 9), none⟩,
    ⟨some 57, .bin .add (.t 56) (.k (.int .i64 1)), none⟩,
    ⟨some 4, .mv (.t 55), none⟩,
    ⟨some 5, .mv (.t 57), none⟩,
    ⟨some 6, .mv (.k (.bool true)), none⟩] [4, 5, 6] [])
  (.ret))) (.skip))))))
  (.reg [⟨some 26, .mv (.t 9), none⟩,
    ⟨some 27, .bin .add (.t 26) (.k (.int .i64 1)), none⟩,
    ⟨some 9, .mv (.t 27), none⟩] [0, 1, 7, 8, 9] []))
def spec_ReadVar.b : C := .seq (.reg [⟨some 4, .mv (.k (.int .i64 0)), none⟩,
    ⟨some 5, .mv (.k (.int .i64 0)), none⟩,
    ⟨some 6, .mv (.k (.bool false)), none⟩] [0, 1] [])
  (.seq (.seq (.reg [⟨some 10, .mv (.t 1), none⟩,
    ⟨some 11, .mv (.t 0), none⟩,
    ⟨some 12, .slen (.t 11), none⟩,
    ⟨some 13, .call 98 [.t 10, .k (.int .i64 0), .t 12] [] [], none⟩,
    ⟨some 14, .not (.t 13), none⟩] [0, 1, 14] [])
  (.cond (.t 14) (.seq (.reg [⟨some 4, .mv (.k (.int .i64 0)), none⟩,
    ⟨some 5, .mv (.k (.int .i64 0)), none⟩,
    ⟨some 6, .mv (.k (.bool false)), none⟩] [4, 5, 6] [])
  (.ret)) (.skip)))
  (.seq (.reg [⟨some 7, .mv (.k (.int .i64 0)), none⟩] [0, 1, 7] [])
  (.seq (.reg [⟨some 8, .mv (.k (.int .i64 1)), none⟩] [0, 1, 7, 8] [])
  (.seq (.seq (.reg [⟨some 15, .mv (.t 1), none⟩,
    ⟨some 9, .mv (.t 15), none⟩] [0, 1, 7, 8, 9] [])
  (.block 0 (.loop spec_ReadVar.l0)))
  (.seq (.reg [⟨some 4, .mv (.k (.int .i64 0)), none⟩,
    ⟨some 5, .mv (.k (.int .i64 0)), none⟩,
    ⟨some 6, .mv (.k (.bool false)), none⟩] [4, 5, 6] [])
  (.ret))))))
def spec_ReadVar.m : Fn := { np := 2, body := spec_ReadVar.b, res := [.tmp 4, .tmp 5, .tmp 6] }
def spec_ReadVar.k (M : Nat → Option Body) : Prop := M 221 = some (.code spec_ReadVar.m) ∧ spec_l01In.k M ∧ spec_l01Var.k M
def impl_ReadVar.l0 : C := .seq (.seq (.reg [⟨some 16, .mv (.t 8), none⟩,
    ⟨some 17, .bin .lss (.t 16) (.k (.int .i64 5)), none⟩,
    ⟨some 18, .mv (.t 17), none⟩,
    ⟨some 19, .mv (.t 1), some (18, true)⟩,
    ⟨some 20, .mv (.t 8), some (18, true)⟩,
    ⟨some 21, .bin .add (.t 19) (.t 20), some (18, true)⟩,
    ⟨some 22, .mv (.t 0), some (18, true)⟩,
    ⟨some 23, .slen (.t 22), some (18, true)⟩,
    ⟨some 24, .bin .lss (.t 21) (.t 23), some (18, true)⟩,
    ⟨some 25, .pick (.t 18) (.t 24) (.k (.bool false)), none⟩] [0, 1, 7, 8, 25] [])
  (.cond (.t 25) (.skip) (.exit 0)))
  (.seq (.block 1 (.seq (.reg [⟨some 28, .mv (.t 7), none⟩,
    ⟨some 29, .mv (.t 0), none⟩,
    ⟨some 30, .mv (.t 1), none⟩,
    ⟨some 31, .mv (.t 8), none⟩,
    ⟨some 32, .bin .add (.t 30) (.t 31), none⟩,
    ⟨some 33, .idx (.t 29) (.t 32), none⟩,
    ⟨some 34, .bin .and (.t 33) (.k (.int .u8 127)), none⟩,
    ⟨some 35, .i2i .i64 (.t 34), none⟩,
    ⟨some 36, .mv (.t 8), none⟩,
    ⟨some 37, .bin .mul (.k (.int .i64 7)) (.t 36), none⟩,
    ⟨some 38, .bin .shl (.t 35) (.t 37), none⟩,
    ⟨some 39, .bin .or (.t 28) (.t 38), none⟩,
    ⟨some 7, .mv (.t 39), none⟩] [0, 1, 7, 8] [])
  (.seq (.seq (.reg [⟨some 40, .mv (.t 0), none⟩,
    ⟨some 41, .mv (.t 1), none⟩,
    ⟨some 42, .mv (.t 8), none⟩,
    ⟨some 43, .bin .add (.t 41) (.t 42), none⟩,
    ⟨some 44, .idx (.t 40) (.t 43), none⟩,
    ⟨some 45, .bin .gtr (.t 44) (.k (.int .u8 127)), none⟩] [0, 1, 7, 8, 45] [])
  (.cond (.t 45) (.exit 1) (.skip)))
  (.seq (.seq (.reg [⟨some 47, .mv (.t 7), none⟩,
    ⟨some 48, .call 230 [.t 47] [] [], none⟩,
    ⟨some 46, .mv (.t 48), none⟩,
    ⟨some 49, .ext 0 (.t 46), none⟩,
    ⟨some 50, .ext 1 (.t 46), none⟩,
    ⟨some 9, .mv (.t 49), none⟩,
    ⟨some 10, .mv (.t 50), none⟩] [0, 1, 7, 8, 9, 10] [])
  (.seq (.reg [⟨some 51, .mv (.t 10), none⟩,
    ⟨some 52, .not (.t 51), none⟩,
    ⟨some 53, .mv (.t 52), none⟩,
    ⟨some 54, .mv (.t 9), some (53, false)⟩,
    ⟨some 55, .mv (.t 0), some (53, false)⟩,
    ⟨some 56, .mv (.t 1), some (53, false)⟩,
    ⟨some 57, .mv (.t 1), some (53, false)⟩,
    ⟨some 58, .mv (.t 8), some (53, false)⟩,
    ⟨some 59, .bin .add (.t 57) (.t 58), some (53, false)⟩,
    ⟨some 60, .bin .add (.t 59) (.k (.int .i64 1)), some (53, false)⟩,
    ⟨some 61, .sstr (.t 55) (some (.t 56)) (some (.t 60)), some (53, false)⟩,
    ⟨some 62, .bin .neq (.t 54) (.t 61), some (53, false)⟩,
    ⟨some 63, .pick (.t 53) (.k (.bool true)) (.t 62), none⟩] [1, 7, 8, 63] [])
  (.cond (.t 63) (.seq (.reg [⟨some 4, .mv (.k (.int .i64 0)), none⟩,
    ⟨some 5, .mv (.k (.int .i64 0)), none⟩,
    ⟨some 6, .mv (.k (.bool false)), none⟩] [4, 5, 6] [])
  (.ret)) (.skip))))
  (.seq (.reg [⟨some 64, .mv (.t 7), none⟩,
    ⟨some 65, .mv (.t 1), none⟩,
    ⟨some 66, .mv (.t 8), none⟩,
    ⟨some 67, .bin .add (.t 65) (.t 66), none⟩,
    ⟨some 68, .bin .add (.t 67) (.k (.int .i64 1)), none⟩,
    ⟨some 4, .mv (.t 64), none⟩,
    ⟨some 5, .mv (.t 68), none⟩,
    ⟨some 6, .mv (.k (.bool true)), none⟩] [4, 5, 6] [])
  (.ret))))))
  (.reg [⟨some 26, .mv (.t 8), none⟩,
    ⟨some 27, .bin .add (.t 26) (.k (.int .i64 1)), none⟩,
    ⟨some 8, .mv (.t 27), none⟩] [0, 1, 7, 8] []))
def impl_ReadVar.b : C := .seq (.reg [⟨some 4, .mv (.k (.int .i64 0)), none⟩,
    ⟨some 5, .mv (.k (.int .i64 0)), none⟩,
    ⟨some 6, .mv (.k (.bool false)), none⟩] [0, 1] [])
  (.seq (.seq (.reg [⟨some 11, .mv (.t 1), none⟩,
    ⟨some 12, .mv (.t 0), none⟩,
    ⟨some 13, .slen (.t 12), none⟩,
    ⟨some 14, .call 101 [.t 11, .k (.int .i64 0), .t 13] [] [], none⟩,
    ⟨some 15, .not (.t 14), none⟩] [0, 1, 15] [])
  (.cond (.t 15) (.seq (.reg [⟨some 4, .mv (.k (.int .i64 0)), none⟩,
    ⟨some 5, .mv (.k (.int .i64 0)), none⟩,
    ⟨some 6, .mv (.k (.bool false)), none⟩] [4, 5, 6] [])
  (.ret)) (.skip)))
  (.seq (.reg [⟨some 7, .mv (.k (.int .i64 0)), none⟩] [0, 1, 7] [])
  (.seq (.seq (.reg [⟨some 8, .mv (.k (.int .i64 0)), none⟩] [0, 1, 7, 8] [])
  (.block 0 (.loop impl_ReadVar.l0)))
  (.seq (.reg [⟨some 4, .mv (.k (.int .i64 0)), none⟩,
    ⟨some 5, .mv (.k (.int .i64 0)), none⟩,
    ⟨some 6, .mv (.k (.bool false)), none⟩] [4, 5, 6] [])
  (.ret)))))
def impl_ReadVar.m : Fn := { np := 2, body := impl_ReadVar.b, res := [.tmp 4, .tmp 5, .tmp 6] }
def impl_ReadVar.k (M : Nat → Option Body) : Prop := M 231 = some (.code impl_ReadVar.m) ∧ impl_within.k M ∧ impl_VarText.k M
def spec_ReadShort.b : C := .seq (.reg [⟨some 4, .mv (.k (.str ⟨#[]⟩)), none⟩,
    ⟨some 5, .mv (.k (.int .i64 0)), none⟩,
    ⟨some 6, .mv (.k (.bool false)), none⟩] [0, 1] [])
  (.seq (.reg [⟨some 11, .mv (.t 0), none⟩,
    ⟨some 12, .mv (.t 1), none⟩,
    ⟨some 13, .call 221 [.t 11, .t 12] [] [], none⟩,
    ⟨some 10, .mv (.t 13), none⟩,
    ⟨some 14, .ext 0 (.t 10), none⟩,
    ⟨some 15, .ext 1 (.t 10), none⟩,
    ⟨some 16, .ext 2 (.t 10), none⟩,
    ⟨some 7, .mv (.t 14), none⟩,
    ⟨some 8, .mv (.t 15), none⟩,
    ⟨some 9, .mv (.t 16), none⟩] [0, 7, 8, 9] [])
  (.seq (.seq (.reg [⟨some 17, .mv (.t 9), none⟩,
    ⟨some 18, .not (.t 17), none⟩,
    ⟨some 19, .mv (.t 18), none⟩,
    ⟨some 20, .mv (.t 7), some (19, false)⟩,
    ⟨some 21, .bin .gtr (.t 20) (.k (.int .i64 20000)), some (19, false)⟩,
    ⟨some 22, .pick (.t 19) (.k (.bool true)) (.t 21), none⟩,
    ⟨some 23, .mv (.t 22), none⟩,
    ⟨some 24, .mv (.t 7), some (23, false)⟩,
    ⟨some 25, .mv (.t 0), some (23, false)⟩,
    ⟨some 26, .slen (.t 25), some (23, false)⟩,
    ⟨some 27, .mv (.t 8), some (23, false)⟩,
    ⟨some 28, .bin .sub (.t 26) (.t 27), some (23, false)⟩,
    ⟨some 29, .bin .gtr (.t 24) (.t 28), some (23, false)⟩,
    ⟨some 30, .pick (.t 23) (.k (.bool true)) (.t 29), none⟩] [0, 7, 8, 30] [])
  (.cond (.t 30) (.seq (.reg [⟨some 4, .mv (.k (.str ⟨#[]⟩)), none⟩,
    ⟨some 5, .mv (.k (.int .i64 0)), none⟩,
    ⟨some 6, .mv (.k (.bool false)), none⟩] [4, 5, 6] [])
  (.ret)) (.skip)))
  (.seq (.reg [⟨some 31, .mv (.t 0), none⟩,
    ⟨some 32, .mv (.t 8), none⟩,
    ⟨some 33, .mv (.t 8), none⟩,
    ⟨some 34, .mv (.t 7), none⟩,
    ⟨some 35, .bin .add (.t 33) (.t 34), none⟩,
    ⟨some 36, .sstr (.t 31) (some (.t 32)) (some (.t 35)), none⟩,
    ⟨some 37, .mv (.t 8), none⟩,
    ⟨some 38, .mv (.t 7), none⟩,
    ⟨some 39, .bin .add (.t 37) (.t 38), none⟩,
    ⟨some 4, .mv (.t 36), none⟩,
    ⟨some 5, .mv (.t 39), none⟩,
    ⟨some 6, .mv (.k (.bool true)), none⟩] [4, 5, 6] [])
  (.ret))))
def spec_ReadShort.m : Fn := { np := 2, body := spec_ReadShort.b, res := [.tmp 4, .tmp 5, .tmp 6] }
def spec_ReadShort.k (M : Nat → Option Body) : Prop := M 206 = some (.code spec_ReadShort.m) ∧ spec_ReadVar.k M
def impl_ReadShort.b : C := .seq (.reg [⟨some 4, .mv (.k (.str ⟨#[]⟩)), none⟩,
    ⟨some 5, .mv (.k (.int .i64 0)), none⟩,
    ⟨some 6, .mv (.k (.bool false)), none⟩] [0, 1] [])
  (.seq (.reg [⟨some 11, .mv (.t 0), none⟩,
    ⟨some 12, .mv (.t 1), none⟩,
    ⟨some 13, .call 231 [.t 11, .t 12] [] [], none⟩,
    ⟨some 10, .mv (.t 13), none⟩,
    ⟨some 14, .ext 0 (.t 10), none⟩,
    ⟨some 15, .ext 1 (.t 10), none⟩,
    ⟨some 16, .ext 2 (.t 10), none⟩,
    ⟨some 7, .mv (.t 14), none⟩,
    ⟨some 8, .mv (.t 15), none⟩,
    ⟨some 9, .mv (.t 16), none⟩] [0, 7, 8, 9] [])
  (.seq (.seq (.reg [⟨some 17, .mv (.t 9), none⟩,
    ⟨some 18, .not (.t 17), none⟩,
    ⟨some 19, .mv (.t 18), none⟩,
    ⟨some 20, .mv (.t 7), some (19, false)⟩,
    ⟨some 21, .bin .gtr (.t 20) (.k (.int .i64 20000)), some (19, false)⟩,
    ⟨some 22, .pick (.t 19) (.k (.bool true)) (.t 21), none⟩,
    ⟨some 23, .mv (.t 22), none⟩,
    ⟨some 24, .mv (.t 7), some (23, false)⟩,
    ⟨some 25, .mv (.t 0), some (23, false)⟩,
    ⟨some 26, .slen (.t 25), some (23, false)⟩,
    ⟨some 27, .mv (.t 8), some (23, false)⟩,
    ⟨some 28, .bin .sub (.t 26) (.t 27), some (23, false)⟩,
    ⟨some 29, .bin .gtr (.t 24) (.t 28), some (23, false)⟩,
    ⟨some 30, .pick (.t 23) (.k (.bool true)) (.t 29), none⟩] [0, 7, 8, 30] [])
  (.cond (.t 30) (.seq (.reg [⟨some 4, .mv (.k (.str ⟨#[]⟩)), none⟩,
    ⟨some 5, .mv (.k (.int .i64 0)), none⟩,
    ⟨some 6, .mv (.k (.bool false)), none⟩] [4, 5, 6] [])
  (.ret)) (.skip)))
  (.seq (.reg [⟨some 31, .mv (.t 0), none⟩,
    ⟨some 32, .mv (.t 8), none⟩,
    ⟨some 33, .mv (.t 8), none⟩,
    ⟨some 34, .mv (.t 7), none⟩,
    ⟨some 35, .bin .add (.t 33) (.t 34), none⟩,
    ⟨some 36, .sstr (.t 31) (some (.t 32)) (some (.t 35)), none⟩,
    ⟨some 37, .mv (.t 8), none⟩,
    ⟨some 38, .mv (.t 7), none⟩,
    ⟨some 39, .bin .add (.t 37) (.t 38), none⟩,
    ⟨some 4, .mv (.t 36), none⟩,
    ⟨some 5, .mv (.t 39), none⟩,
    ⟨some 6, .mv (.k (.bool true)), none⟩] [4, 5, 6] [])
  (.ret))))
def impl_ReadShort.m : Fn := { np := 2, body := impl_ReadShort.b, res := [.tmp 4, .tmp 5, .tmp 6] }
def impl_ReadShort.k (M : Nat → Option Body) : Prop := M 207 = some (.code impl_ReadShort.m) ∧ impl_ReadVar.k M
def impl_short.b : C := .seq (.reg [⟨some 2, .mv (.k (.str ⟨#[]⟩)), none⟩] [0] [])
  (.seq (.reg [⟨some 6, .mv (.t 0), none⟩,
    ⟨some 7, .call 205 [.t 6] [] [], none⟩,
    ⟨some 5, .mv (.t 7), none⟩,
    ⟨some 8, .ext 0 (.t 5), none⟩,
    ⟨some 9, .ext 1 (.t 5), none⟩,
    ⟨some 3, .mv (.t 8), none⟩,
    ⟨some 4, .mv (.t 9), none⟩] [3] [])
  (.seq (.reg [⟨some 10, .mv (.t 3), none⟩,
    ⟨some 2, .mv (.t 10), none⟩] [2] [])
  (.ret)))
def impl_short.m : Fn := { np := 1, body := impl_short.b, res := [.tmp 2] }
def impl_short.k (M : Nat → Option Body) : Prop := M 102 = some (.code impl_short.m) ∧ impl_ShortText.k M
def impl_vars.l0 : C := .seq (.reg [⟨some 11, .bin .lss (.t 10) (.t 9), none⟩] [3, 8, 9, 10, 11] [])
  (.seq (.cond (.t 11) (.skip) (.exit 0))
  (.seq (.block 1 (.seq (.reg [⟨some 12, .iaddr 1 (.t 8) (.t 10), none⟩,
    ⟨some 13, .load false 1 (.t 12), none⟩,
    ⟨some 5, .mv (.t 13), none⟩] [3, 5, 8, 9, 10] [])
  (.seq (.reg [⟨some 15, .mv (.t 5), none⟩,
    ⟨some 16, .call 230 [.t 15] [] [], none⟩,
    ⟨some 14, .mv (.t 16), none⟩,
    ⟨some 17, .ext 0 (.t 14), none⟩,
    ⟨some 18, .ext 1 (.t 14), none⟩,
    ⟨some 6, .mv (.t 17), none⟩,
    ⟨some 7, .mv (.t 18), none⟩] [3, 6, 8, 9, 10] [])
  (.reg [⟨some 19, .mv (.t 3), none⟩,
    ⟨some 20, .mv (.t 6), none⟩,
    ⟨some 21, .bin .add (.t 19) (.t 20), none⟩,
    ⟨some 3, .mv (.t 21), none⟩] [3, 8, 9, 10] []))))
  (.reg [⟨some 22, .bin .add (.t 10) (.k (.int .i64 1)), none⟩,
    ⟨some 10, .mv (.t 22), none⟩] [3, 8, 9, 10] [])))
def impl_vars.b : C := .seq (.reg [⟨some 2, .mv (.k (.str ⟨#[]⟩)), none⟩] [0] [])
  (.seq (.reg [⟨some 3, .mv (.k (.str ⟨#[]⟩)), none⟩] [0, 3] [])
  (.seq (.seq (.reg [⟨some 8, .mv (.t 0), none⟩,
    ⟨some 9, .len (.t 8), none⟩,
    ⟨some 10, .mv (.k (.int .i64 0)), none⟩] [3, 8, 9, 10] [])
  (.block 0 (.loop impl_vars.l0)))
  (.seq (.reg [⟨some 23, .mv (.t 3), none⟩,
    ⟨some 2, .mv (.t 23), none⟩] [2] [])
  (.ret))))
def impl_vars.m : Fn := { np := 1, body := impl_vars.b, res := [.tmp 2] }
def impl_vars.k (M : Nat → Option Body) : Prop := M 151 = some (.code impl_vars.m) ∧ impl_VarText.k M
end Mx

/-
  Numbers in bytes: VarText, ReadVar; short texts.
-/
namespace Mx
open Go
variable {M : Nat → Option Body}
/-- the bytes ahead of the last, and the last -/
def varP (n : Nat) : List UInt8 × Nat := if n > 127 then let r := varP (n / 128); (UInt8.ofNat (n % 128 + 128) :: r.1, r.2) else ([], n)
termination_by n
decreasing_by omega
theorem varP_low {n : Nat} (h : ¬ n > 127) : varP n = ([], n) := by rw [varP, if_neg h]
theorem varP_high {n : Nat} (h : n > 127) : varP n = (UInt8.ofNat (n % 128 + 128) :: (varP (n / 128)).1, (varP (n / 128)).2) := by rw [varP, if_pos h]
def varT (n : Nat) : List UInt8 := (varP n).1 ++ [UInt8.ofNat (varP n).2]
theorem varP_len : ∀ (k n : Nat), n < 128 ^ k → (varP n).1.length ≤ k := by
  intro k
  induction k with
  | zero => intro n h; have : n = 0 := by simpa using h
            subst this; rw [varP_low (by omega)]; simp
  | succ k ih =>
    intro n h
    by_cases hc : n > 127
    · rw [varP_high hc]
      have := ih (n / 128) (by rw [Nat.pow_succ] at h; omega)
      simp; omega
    · rw [varP_low hc]; simp
theorem varT_len {n : Nat} (h : n ≤ 9223372036854775807) : (varT n).length ≤ 10 := by
  have := varP_len 9 n (by omega)
  simp [varT]; omega

def spV (a b c : Nat) (s : Nat × List UInt8) (x : Nat × Nat) : St := { t := [(0, .c (I s.1)), (b, .c (.row a x.1 0 s.2.length))], o := [(a, ⟨x.1, 1, true, false, brow s.2⟩)], n := x.2 }
def vInv (s : Nat × List UInt8) : Prop := s.1 ≤ 9223372036854775807 ∧ ∃ k, s.1 < 128 ^ k ∧ s.2.length + k ≤ 20
theorem vInv_step {n : Nat} {acc : List UInt8} (h : vInv (n, acc)) (hc : n > 127) (b : UInt8) : vInv (n / 128, acc ++ [b]) := by
  obtain ⟨h1, k, h2, h3⟩ := h
  simp only at h1 h2 h3
  cases k with
  | zero => simp at h2; omega
  | succ k => exact ⟨by simp only; omega, k, by simp only; rw [Nat.pow_succ] at h2; omega, by simp; omega⟩
theorem spec_l01Var.says (h : spec_l01Var.k M) (n : Nat) (hn : n ≤ 9223372036854775807) : run M 99 [.c (I n)] [] = some (.c (S (varT n)), []) := by
  refine run_code (b := spec_l01Var.m) h ⟨n + 1, ?_⟩
  obtain ⟨g, hr⟩ := loop_all (f := exC (run M) (n + 1) spec_l01Var.l0) (spV 4 3 6) vInv (fun s => s.1) (fun s => (s.2 ++ (varP s.1).1, (varP s.1).2))
    (fun q (m : Nat × Nat) => (.exit 0, { t := [(0, .c (I q.2)), (3, .c (.row 4 m.1 0 q.1.length)), (6, .c (.bool false))], o := [(4, ⟨m.1, 1, true, false, brow q.1⟩)], n := m.2 }))
    (by
      rintro ⟨i, acc⟩ ⟨v, x⟩ hi
      by_cases hc : i > 127
      · left
        have hb := hi.1
        obtain ⟨k, hk1, hk2⟩ := hi.2
        simp only at hb hk1 hk2
        have e1 : IntKind.i64.wrap ((i : Int).tmod 128 + 128) = ((i % 128 + 128 : Nat) : Int) := by
          rw [Int.tmod_eq_emod_of_nonneg (by omega), wrap_i64 (by omega) (by omega)]; omega
        have e2 : IntKind.i64.wrap ((i : Int) / 128) = (i : Int) / 128 := wrap_i64 (by omega) (by omega)
        have e3 : IntKind.u8.wrap ((i % 128 + 128 : Nat) : Int) = ((UInt8.ofNat (i % 128 + 128)).toNat : Int) := by rw [ofNat_toNat, wrap_u8]
        have hc' : (127 : Int) < i := by omega
        have e4 : acc.length + 1 ≤ 4294967296 := by omega
        generalize hb : UInt8.ofNat (i % 128 + 128) = b at e3
        obtain ⟨y, hy⟩ : ∃ y, exC (run M) (n + 1) spec_l01Var.l0 (spV 4 3 6 (i, acc) (v, x)) = some (.normal, spV 4 3 6 (i / 128, acc ++ [b]) y) := by
          simp only [Prod.exists]
          simp only [spV, spec_l01Var.l0]
          simp only [Int.natCast_add, Int.natCast_emod, Int.cast_ofNat_Int] at e1 e3
          simp [hc', e1, e2, e3, e4, brow1, List.take_of_length_le]
        refine ⟨(i / 128, acc ++ [b]), y, hy, vInv_step hi hc b, by simp only; omega, ?_⟩
        simp only [varP_high hc, hb, List.append_assoc, List.cons_append, List.nil_append]
      · right
        have hc' : ¬ (127 : Int) < i := by omega
        refine ⟨(v, x + 32), ?_, by simp⟩
        simp only [varP_low hc, List.append_nil]
        simp [spV, spec_l01Var.l0, hc'])
    (n + 1) (n, []) ⟨hn, 9, by simp only; omega, by simp⟩ (by simp)
  have hl := varP_len 9 n (by omega)
  have e3 : IntKind.u8.wrap ((varP n).2 : Int) = ((UInt8.ofNat (varP n).2).toNat : Int) := by rw [ofNat_toNat, wrap_u8]
  have e4 : (varP n).1.length + 1 ≤ 4294967296 := by omega
  simp only [List.nil_append] at hr
  simp [spV, -List.nil_append] at hr
  generalize hb : UInt8.ofNat (varP n).2 = b at e3
  have hv : varT n = (varP n).1 ++ [b] := by rw [← hb]; rfl
  rw [hv]
  simp [exB, spec_l01Var.m, spec_l01Var.b, List.range_succ, hr, e3, e4, brow1, List.take_of_length_le]

theorem or_and (n : Nat) (h : n < 9223372036854775808) : orI .i64 (andI .i64 n 127) 128 = ((n % 128 + 128 : Nat) : Int) := by
  have e1 := and_i64 n 127 h (by omega)
  have e2 := or_i64 (n % 128) 128 (by omega) (by omega)
  rw [and_127] at e1
  rw [or_128 _ (by omega)] at e2
  rw [show (127 : Int) = ((127 : Nat) : Int) from rfl, e1]
  exact e2
theorem impl_VarText.says (h : impl_VarText.k M) (n : Nat) (hn : n ≤ 9223372036854775807) : run M 230 [.c (I n)] [] = some (.tup [.c (S (if n ≤ 1000000000 then varT n else [])), .c (.bool (decide (n ≤ 1000000000)))], []) := by
  have hw := impl_within.says h.2 n 0 1000000000
  refine run_code (b := impl_VarText.m) h.1 ⟨n + 1, ?_⟩
  by_cases hm : n ≤ 1000000000
  rotate_left
  · have hm' : ¬ (n : Int) ≤ 1000000000 := by omega
    simp [hm'] at hw
    simp [exB, impl_VarText.m, impl_VarText.b, List.range_succ, hw, hm]
  have hm' : (n : Int) ≤ 1000000000 := by omega
  simp [hm'] at hw
  obtain ⟨g, hr⟩ := loop_all (f := exC (run M) (n + 1) impl_VarText.l0) (spV 8 4 10) vInv (fun s => s.1) (fun s => (s.2 ++ (varP s.1).1, (varP s.1).2))
    (fun q (m : Nat × Nat) => (.exit 0, { t := [(0, .c (I q.2)), (4, .c (.row 8 m.1 0 q.1.length)), (10, .c (.bool false))], o := [(8, ⟨m.1, 1, true, false, brow q.1⟩)], n := m.2 }))
    (by
      rintro ⟨i, acc⟩ ⟨v, x⟩ hi
      by_cases hc : i > 127
      · left
        have hb := hi.1
        obtain ⟨k, hk1, hk2⟩ := hi.2
        simp only at hb hk1 hk2
        have e1 := or_and i (by omega)
        have e2 : (i : Int).fdiv 128 = ((i / 128 : Nat) : Int) := by
          rw [Int.fdiv_eq_ediv_of_nonneg _ (by omega)]; omega
        have e3 : IntKind.u8.wrap ((i % 128 + 128 : Nat) : Int) = ((UInt8.ofNat (i % 128 + 128)).toNat : Int) := by rw [ofNat_toNat, wrap_u8]
        have hc' : (127 : Int) < i := by omega
        have e4 : acc.length + 1 ≤ 4294967296 := by omega
        generalize hb : UInt8.ofNat (i % 128 + 128) = b at e3
        obtain ⟨y, hy⟩ : ∃ y, exC (run M) (n + 1) impl_VarText.l0 (spV 8 4 10 (i, acc) (v, x)) = some (.normal, spV 8 4 10 (i / 128, acc ++ [b]) y) := by
          simp only [Prod.exists]
          simp only [spV, impl_VarText.l0]
          simp only [Int.natCast_add, Int.natCast_emod, Int.cast_ofNat_Int] at e1 e3
          simp [hc', e1, e2, e3, e4, brow1, List.take_of_length_le, IntKind.bits]
        refine ⟨(i / 128, acc ++ [b]), y, hy, vInv_step hi hc b, by simp only; omega, ?_⟩
        simp only [varP_high hc, hb, List.append_assoc, List.cons_append, List.nil_append]
      · right
        have hc' : ¬ (127 : Int) < i := by omega
        refine ⟨(v, x + 32), ?_, by simp⟩
        simp only [varP_low hc, List.append_nil]
        simp [spV, impl_VarText.l0, hc'])
    (n + 1) (n, []) ⟨hn, 9, by simp only; omega, by simp⟩ (by simp)
  have hl := varP_len 9 n (by omega)
  have e3 : IntKind.u8.wrap ((varP n).2 : Int) = ((UInt8.ofNat (varP n).2).toNat : Int) := by rw [ofNat_toNat, wrap_u8]
  have e4 : (varP n).1.length + 1 ≤ 4294967296 := by omega
  simp only [List.nil_append] at hr
  simp [spV, -List.nil_append] at hr
  generalize hb : UInt8.ofNat (varP n).2 = b at e3
  have hv : varT n = (varP n).1 ++ [b] := by rw [← hb]; rfl
  rw [hv]
  simp [exB, impl_VarText.m, impl_VarText.b, List.range_succ, hr, hw, hm, e3, e4, brow1, List.take_of_length_le]
/-- its length, and it -/
def shortT (l : List UInt8) : List UInt8 := varT l.length ++ l
theorem impl_ShortText.says (h : impl_ShortText.k M) (l : List UInt8) (hl : l.length ≤ 4611686018427387904) : run M 205 [.c (S l)] [] = some (.tup [.c (S (if 20000 < l.length then [] else shortT l)), .c (.bool (!decide (20000 < l.length)))], []) := by
  have h1 := impl_VarText.says h.2 l.length (by omega)
  refine run_code (b := impl_ShortText.m) h.1 ⟨0, ?_⟩
  by_cases c : 20000 < l.length
  · have c' : 20000 < (l.length : Int) := by omega
    simp [exB, impl_ShortText.m, impl_ShortText.b, List.range_succ, c, c']
  · have c' : ¬ 20000 < (l.length : Int) := by omega
    have c2 : l.length ≤ 1000000000 := by omega
    have hv := varT_len (n := l.length) (by omega)
    simp only [c2, if_true, decide_true] at h1
    simp (disch := (first | omega | (simp; done) | (simp; omega))) [exB, impl_ShortText.m, impl_ShortText.b, List.range_succ, c, c', h1, shortT, str_add]
theorem impl_short.says (h : impl_short.k M) (l : List UInt8) (hl : l.length ≤ 20000) : run M 102 [.c (S l)] [] = some (.c (S (shortT l)), []) := by
  have h1 := impl_ShortText.says h.2 l (by omega)
  have c : ¬ 20000 < l.length := by omega
  refine run_code (b := impl_short.m) h.1 ⟨0, ?_⟩
  simp only [c, if_false] at h1
  simp [exB, impl_short.m, impl_short.b, List.range_succ, h1]
end Mx

/-
  Small codes: spec.RecordText, impl.RecordText, laws.FnExactRecordText.
-/
namespace Mx
open Go
def spec_RecordText.b : C := .seq (.reg [⟨some 2, .mv (.k (.str ⟨#[]⟩)), none⟩,
    ⟨some 3, .mv (.k (.bool false)), none⟩] [0] [])
  (.seq (.seq (.reg [⟨some 4, .mv (.t 0), none⟩,
    ⟨some 5, .slen (.t 4), none⟩,
    ⟨some 6, .call 98 [.t 5, .k (.int .i64 1), .k (.int .i64 6000)] [] [], none⟩,
    ⟨some 7, .not (.t 6), none⟩] [0, 7] [])
  (.cond (.t 7) (.seq (.reg [⟨some 2, .mv (.k (.str ⟨#[]⟩)), none⟩,
    ⟨some 3, .mv (.k (.bool false)), none⟩] [2, 3] [])
  (.ret)) (.skip)))
  (.seq (.reg [⟨some 8, .mv (.t 0), none⟩,
    ⟨some 9, .slen (.t 8), none⟩,
    ⟨some 10, .call 99 [.t 9] [] [], none⟩,
    ⟨some 11, .mv (.t 0), none⟩,
    ⟨some 12, .bin .add (.t 10) (.t 11), none⟩,
    ⟨some 13, .call 100 [.t 12] [] [], none⟩,
    ⟨some 14, .ext 0 (.t 13), none⟩,
    ⟨some 15, .ext 1 (.t 13), none⟩,
    ⟨some 2, .mv (.t 14), none⟩,
    ⟨some 3, .mv (.t 15), none⟩] [2, 3] [])
  (.ret)))
def spec_RecordText.m : Fn := { np := 1, body := spec_RecordText.b, res := [.tmp 2, .tmp 3] }
def spec_RecordText.k (M : Nat → Option Body) : Prop := M 10 = some (.code spec_RecordText.m) ∧ spec_l01In.k M ∧ spec_l01Var.k M ∧ spec_Sealed.k M
def impl_RecordText.b : C := .seq (.reg [⟨some 2, .mv (.k (.str ⟨#[]⟩)), none⟩,
    ⟨some 3, .mv (.k (.bool false)), none⟩] [0] [])
  (.seq (.seq (.reg [⟨some 4, .mv (.t 0), none⟩,
    ⟨some 5, .slen (.t 4), none⟩,
    ⟨some 6, .call 101 [.t 5, .k (.int .i64 1), .k (.int .i64 6000)] [] [], none⟩,
    ⟨some 7, .not (.t 6), none⟩] [0, 7] [])
  (.cond (.t 7) (.seq (.reg [⟨some 2, .mv (.k (.str ⟨#[]⟩)), none⟩,
    ⟨some 3, .mv (.k (.bool false)), none⟩] [2, 3] [])
  (.ret)) (.skip)))
  (.seq (.reg [⟨some 8, .mv (.t 0), none⟩,
    ⟨some 9, .call 102 [.t 8] [] [], none⟩,
    ⟨some 10, .call 103 [.t 9] [] [], none⟩,
    ⟨some 11, .ext 0 (.t 10), none⟩,
    ⟨some 12, .ext 1 (.t 10), none⟩,
    ⟨some 2, .mv (.t 11), none⟩,
    ⟨some 3, .mv (.t 12), none⟩] [2, 3] [])
  (.ret)))
def impl_RecordText.m : Fn := { np := 1, body := impl_RecordText.b, res := [.tmp 2, .tmp 3] }
def impl_RecordText.k (M : Nat → Option Body) : Prop := M 11 = some (.code impl_RecordText.m) ∧ impl_within.k M ∧ impl_short.k M ∧ impl_Sealed.k M
def laws_FnExactRecordText.b : C := .seq (.reg [⟨some 2, .mv (.k (.bool false)), none⟩] [0] [])
  (.seq (.seq (.reg [⟨some 7, .mv (.t 0), none⟩,
    ⟨some 8, .slen (.t 7), none⟩,
    ⟨some 9, .bin .gtr (.t 8) (.k (.int .i64 1048576)), none⟩] [0, 9] [])
  (.cond (.t 9) (.seq (.reg [⟨some 2, .mv (.k (.bool true)), none⟩] [2] [])
  (.ret)) (.skip)))
  (.seq (.reg [⟨some 11, .mv (.t 0), none⟩,
    ⟨some 12, .call 10 [.t 11] [] [], none⟩,
    ⟨some 10, .mv (.t 12), none⟩,
    ⟨some 13, .ext 0 (.t 10), none⟩,
    ⟨some 14, .ext 1 (.t 10), none⟩,
    ⟨some 3, .mv (.t 13), none⟩,
    ⟨some 4, .mv (.t 14), none⟩] [0, 3, 4] [])
  (.seq (.reg [⟨some 16, .mv (.t 0), none⟩,
    ⟨some 17, .call 11 [.t 16] [] [], none⟩,
    ⟨some 15, .mv (.t 17), none⟩,
    ⟨some 18, .ext 0 (.t 15), none⟩,
    ⟨some 19, .ext 1 (.t 15), none⟩,
    ⟨some 5, .mv (.t 18), none⟩,
    ⟨some 6, .mv (.t 19), none⟩] [3, 4, 5, 6] [])
  (.seq (.seq (.reg [⟨some 20, .mv (.t 5), none⟩,
    ⟨some 21, .mv (.t 3), none⟩,
    ⟨some 22, .bin .neq (.t 20) (.t 21), none⟩,
    ⟨some 23, .mv (.t 22), none⟩,
    ⟨some 24, .mv (.t 6), some (23, false)⟩,
    ⟨some 25, .mv (.t 4), some (23, false)⟩,
    ⟨some 26, .beq true (.t 24) (.t 25), some (23, false)⟩,
    ⟨some 27, .pick (.t 23) (.k (.bool true)) (.t 26), none⟩] [27] [])
  (.cond (.t 27) (.seq (.reg [⟨some 2, .mv (.k (.bool false)), none⟩] [2] [])
  (.ret)) (.skip)))
  (.seq (.reg [⟨some 2, .mv (.k (.bool true)), none⟩] [2] [])
  (.ret))))))
def laws_FnExactRecordText.m : Fn := { np := 1, body := laws_FnExactRecordText.b, res := [.tmp 2] }
def laws_FnExactRecordText.k (M : Nat → Option Body) : Prop := M 363 = some (.code laws_FnExactRecordText.m) ∧ spec_RecordText.k M ∧ impl_RecordText.k M
end Mx

/-
  What the two RecordText answer, and their law.
-/
namespace Mx
open Go
variable {M : Nat → Option Body}
def recordText (l : List UInt8) : List UInt8 × Bool := if 1 ≤ l.length ∧ l.length ≤ 6000 then sealed (shortT l) else ([], false)
theorem spec_RecordText.says (h : spec_RecordText.k M) (l : List UInt8) (hl : l.length ≤ 4611686018427387904) : run M 10 [.c (S l)] [] = some (.tup [.c (S (recordText l).1), .c (.bool (recordText l).2)], []) := by
  obtain ⟨h0, k1, k2, k3⟩ := h
  have hw := spec_l01In.says k1 l.length 1 6000
  refine run_code (b := spec_RecordText.m) h0 ⟨0, ?_⟩
  by_cases c : 1 ≤ l.length ∧ l.length ≤ 6000
  · have c1 : (1 : Int) ≤ l.length := by omega
    have c2 : (l.length : Int) ≤ 6000 := by omega
    have h1 := spec_l01Var.says k2 l.length (by omega)
    have hv := varT_len (n := l.length) (by omega)
    have h2 := spec_Sealed.says k3 (varT l.length ++ l) (by simp; omega)
    simp [c1, c2] at hw
    simp (disch := (first | omega | (simp; done) | (simp; omega))) [exB, spec_RecordText.m, spec_RecordText.b, List.range_succ, hw, h1, h2, recordText, c, shortT, str_add]
  · have hb : (decide ((1 : Int) ≤ l.length) && decide ((l.length : Int) ≤ 6000)) = false := by
      rw [Bool.eq_false_iff]; intro hh; simp only [Bool.and_eq_true, decide_eq_true_eq] at hh; omega
    rw [hb] at hw
    simp [exB, spec_RecordText.m, spec_RecordText.b, List.range_succ, hw, recordText, c]
theorem impl_RecordText.says (h : impl_RecordText.k M) (l : List UInt8) (hl : l.length ≤ 4611686018427387904) : run M 11 [.c (S l)] [] = some (.tup [.c (S (recordText l).1), .c (.bool (recordText l).2)], []) := by
  obtain ⟨h0, k1, k2, k3⟩ := h
  have hw := impl_within.says k1 l.length 1 6000
  refine run_code (b := impl_RecordText.m) h0 ⟨0, ?_⟩
  by_cases c : 1 ≤ l.length ∧ l.length ≤ 6000
  · have c1 : (1 : Int) ≤ l.length := by omega
    have c2 : (l.length : Int) ≤ 6000 := by omega
    have h1 := impl_short.says k2 l (by omega)
    have hv := varT_len (n := l.length) (by omega)
    have h2 := impl_Sealed.says k3 (shortT l) (by simp [shortT]; omega)
    simp [c1, c2] at hw
    simp [exB, impl_RecordText.m, impl_RecordText.b, List.range_succ, hw, h1, h2, recordText, c]
  · have hb : (decide ((1 : Int) ≤ l.length) && decide ((l.length : Int) ≤ 6000)) = false := by
      rw [Bool.eq_false_iff]; intro hh; simp only [Bool.and_eq_true, decide_eq_true_eq] at hh; omega
    rw [hb] at hw
    simp [exB, impl_RecordText.m, impl_RecordText.b, List.range_succ, hw, recordText, c]
theorem laws_FnExactRecordText.says (h : laws_FnExactRecordText.k M) (l : List UInt8) : run M 363 [.c (S l)] [] = some (.c (.bool true), []) := by
  refine run_code (b := laws_FnExactRecordText.m) h.1 ⟨0, ?_⟩
  by_cases hc : (1048576 : Int) < l.length
  · simp [exB, laws_FnExactRecordText.m, laws_FnExactRecordText.b, List.range_succ, hc]
  · have h1 := spec_RecordText.says h.2.1 l (by omega)
    have h2 := impl_RecordText.says h.2.2 l (by omega)
    simp [exB, laws_FnExactRecordText.m, laws_FnExactRecordText.b, List.range_succ, hc, h1, h2]
theorem laws_FnExactRecordText.row (h : laws_FnExactRecordText.k M) {as : List V} (ha : HasVs [.cell .str] as) : run M 363 as [] = some (.c (.bool true), []) := by
  cases ha with | cons h0 ha =>
  cases ha
  cases h0 with | cell h0 =>
  cases h0 with | str s hs =>
  obtain ⟨l, rfl⟩ := of_bytes s
  exact laws_FnExactRecordText.says h l
end Mx

/-
  Small codes: spec.l12Read, spec.ReadRecords, impl.recordAt, impl.ReadRecords, laws.eqStringS, laws.markText, laws.markStringS, laws.heldStringS, laws.FnExactReadRecords.
-/
namespace Mx
open Go
def spec_l12Read.b : C := .seq (.reg [⟨some 4, .mv (.k (.str ⟨#[]⟩)), none⟩,
    ⟨some 5, .mv (.k (.int .i64 0)), none⟩,
    ⟨some 6, .mv (.k (.bool false)), none⟩] [0, 1] [])
  (.seq (.reg [⟨some 13, .mv (.t 0), none⟩,
    ⟨some 14, .mv (.t 1), none⟩,
    ⟨some 15, .call 206 [.t 13, .t 14] [] [], none⟩,
    ⟨some 12, .mv (.t 15), none⟩,
    ⟨some 16, .ext 0 (.t 12), none⟩,
    ⟨some 17, .ext 1 (.t 12), none⟩,
    ⟨some 18, .ext 2 (.t 12), none⟩,
    ⟨some 7, .mv (.t 16), none⟩,
    ⟨some 8, .mv (.t 17), none⟩,
    ⟨some 9, .mv (.t 18), none⟩] [0, 1, 7, 8, 9] [])
  (.seq (.seq (.reg [⟨some 19, .mv (.t 9), none⟩,
    ⟨some 20, .not (.t 19), none⟩,
    ⟨some 21, .mv (.t 20), none⟩,
    ⟨some 22, .mv (.t 8), some (21, false)⟩,
    ⟨some 23, .mv (.t 0), some (21, false)⟩,
    ⟨some 24, .slen (.t 23), some (21, false)⟩,
    ⟨some 25, .bin .sub (.t 24) (.k (.int .i64 4)), some (21, false)⟩,
    ⟨some 26, .bin .gtr (.t 22) (.t 25), some (21, false)⟩,
    ⟨some 27, .pick (.t 21) (.k (.bool true)) (.t 26), none⟩] [0, 1, 7, 8, 27] [])
  (.cond (.t 27) (.seq (.reg [⟨some 4, .mv (.k (.str ⟨#[]⟩)), none⟩,
    ⟨some 5, .mv (.k (.int .i64 0)), none⟩,
    ⟨some 6, .mv (.k (.bool false)), none⟩] [4, 5, 6] [])
  (.ret)) (.skip)))
  (.seq (.reg [⟨some 29, .mv (.t 7), none⟩,
    ⟨some 30, .call 10 [.t 29] [] [], none⟩,
    ⟨some 28, .mv (.t 30), none⟩,
    ⟨some 31, .ext 0 (.t 28), none⟩,
    ⟨some 32, .ext 1 (.t 28), none⟩,
    ⟨some 10, .mv (.t 31), none⟩,
    ⟨some 11, .mv (.t 32), none⟩] [0, 1, 7, 8, 10, 11] [])
  (.seq (.seq (.reg [⟨some 33, .mv (.t 11), none⟩,
    ⟨some 34, .not (.t 33), none⟩,
    ⟨some 35, .mv (.t 34), none⟩,
    ⟨some 36, .mv (.t 10), some (35, false)⟩,
    ⟨some 37, .mv (.t 0), some (35, false)⟩,
    ⟨some 38, .mv (.t 1), some (35, false)⟩,
    ⟨some 39, .mv (.t 8), some (35, false)⟩,
    ⟨some 40, .bin .add (.t 39) (.k (.int .i64 4)), some (35, false)⟩,
    ⟨some 41, .sstr (.t 37) (some (.t 38)) (some (.t 40)), some (35, false)⟩,
    ⟨some 42, .bin .neq (.t 36) (.t 41), some (35, false)⟩,
    ⟨some 43, .pick (.t 35) (.k (.bool true)) (.t 42), none⟩] [7, 8, 43] [])
  (.cond (.t 43) (.seq (.reg [⟨some 4, .mv (.k (.str ⟨#[]⟩)), none⟩,
    ⟨some 5, .mv (.k (.int .i64 0)), none⟩,
    ⟨some 6, .mv (.k (.bool false)), none⟩] [4, 5, 6] [])
  (.ret)) (.skip)))
  (.seq (.reg [⟨some 44, .mv (.t 7), none⟩,
    ⟨some 45, .mv (.t 8), none⟩,
    ⟨some 46, .bin .add (.t 45) (.k (.int .i64 4)), none⟩,
    ⟨some 4, .mv (.t 44), none⟩,
    ⟨some 5, .mv (.t 46), none⟩,
    ⟨some 6, .mv (.k (.bool true)), none⟩] [4, 5, 6] [])
  (.ret))))))
def spec_l12Read.m : Fn := { np := 2, body := spec_l12Read.b, res := [.tmp 4, .tmp 5, .tmp 6] }
def spec_l12Read.k (M : Nat → Option Body) : Prop := M 104 = some (.code spec_l12Read.m) ∧ spec_RecordText.k M ∧ spec_ReadShort.k M
def spec_ReadRecords.l0 : C := .block 1 (.seq (.reg [⟨some 11, .mv (.t 0), none⟩,
    ⟨some 12, .mv (.t 5), none⟩,
    ⟨some 13, .call 104 [.t 11, .t 12] [] [], none⟩,
    ⟨some 10, .mv (.t 13), none⟩,
    ⟨some 14, .ext 0 (.t 10), none⟩,
    ⟨some 15, .ext 1 (.t 10), none⟩,
    ⟨some 16, .ext 2 (.t 10), none⟩,
    ⟨some 6, .mv (.t 14), none⟩,
    ⟨some 7, .mv (.t 15), none⟩,
    ⟨some 8, .mv (.t 16), none⟩] [0, 4, 5, 6, 7, 8] [9, 24])
  (.seq (.seq (.reg [⟨some 17, .mv (.t 8), none⟩,
    ⟨some 18, .not (.t 17), none⟩] [0, 4, 5, 6, 7, 18] [9, 24])
  (.cond (.t 18) (.seq (.reg [⟨some 19, .mv (.t 4), none⟩,
    ⟨some 20, .mv (.t 5), none⟩,
    ⟨some 2, .mv (.t 19), none⟩,
    ⟨some 3, .mv (.t 20), none⟩] [2, 3] [2, 9, 24])
  (.ret)) (.skip)))
  (.seq (.reg [⟨some 21, .mv (.t 4), none⟩,
    ⟨some 22, .mv (.t 6), none⟩,
    ⟨some 23, .bslice 1 1 [.str ⟨#[]⟩] [(0, .t 22)], none⟩,
    ⟨some 24, .app 1 16 (.t 21) (.t 23), none⟩,
    ⟨some 4, .mv (.t 24), none⟩] [0, 4, 7] [9, 24])
  (.reg [⟨some 25, .mv (.t 7), none⟩,
    ⟨some 5, .mv (.t 25), none⟩] [0, 4, 5] [9, 24]))))
def spec_ReadRecords.b : C := .seq (.reg [⟨some 2, .nil 1, none⟩,
    ⟨some 3, .mv (.k (.int .i64 0)), none⟩] [0] [])
  (.seq (.reg [⟨some 9, .bslice 1 0 [.str ⟨#[]⟩] [], none⟩,
    ⟨some 4, .mv (.t 9), none⟩] [0, 4] [9, 24])
  (.seq (.reg [⟨some 5, .mv (.k (.int .i64 0)), none⟩] [0, 4, 5] [9, 24])
  (.block 0 (.loop spec_ReadRecords.l0))))
def spec_ReadRecords.m : Fn := { np := 1, body := spec_ReadRecords.b, res := [.tmp 2, .tmp 3] }
def spec_ReadRecords.k (M : Nat → Option Body) : Prop := M 12 = some (.code spec_ReadRecords.m) ∧ spec_l12Read.k M
def impl_recordAt.b : C := .seq (.reg [⟨some 4, .mv (.k (.str ⟨#[]⟩)), none⟩,
    ⟨some 5, .mv (.k (.int .i64 0)), none⟩,
    ⟨some 6, .mv (.k (.bool false)), none⟩] [0, 1] [])
  (.seq (.reg [⟨some 13, .mv (.t 0), none⟩,
    ⟨some 14, .mv (.t 1), none⟩,
    ⟨some 15, .call 207 [.t 13, .t 14] [] [], none⟩,
    ⟨some 12, .mv (.t 15), none⟩,
    ⟨some 16, .ext 0 (.t 12), none⟩,
    ⟨some 17, .ext 1 (.t 12), none⟩,
    ⟨some 18, .ext 2 (.t 12), none⟩,
    ⟨some 7, .mv (.t 16), none⟩,
    ⟨some 8, .mv (.t 17), none⟩,
    ⟨some 9, .mv (.t 18), none⟩] [0, 1, 7, 8, 9] [])
  (.seq (.seq (.reg [⟨some 19, .mv (.t 9), none⟩,
    ⟨some 20, .not (.t 19), none⟩,
    ⟨some 21, .mv (.t 20), none⟩,
    ⟨some 22, .mv (.t 7), some (21, false)⟩,
    ⟨some 23, .slen (.t 22), some (21, false)⟩,
    ⟨some 24, .call 101 [.t 23, .k (.int .i64 1), .k (.int .i64 6000)] [] [], some (21, false)⟩,
    ⟨some 25, .not (.t 24), some (21, false)⟩,
    ⟨some 26, .pick (.t 21) (.k (.bool true)) (.t 25), none⟩,
    ⟨some 27, .mv (.t 26), none⟩,
    ⟨some 28, .mv (.t 0), some (27, false)⟩,
    ⟨some 29, .slen (.t 28), some (27, false)⟩,
    ⟨some 30, .mv (.t 8), some (27, false)⟩,
    ⟨some 31, .bin .sub (.t 29) (.t 30), some (27, false)⟩,
    ⟨some 32, .bin .lss (.t 31) (.k (.int .i64 4)), some (27, false)⟩,
    ⟨some 33, .pick (.t 27) (.k (.bool true)) (.t 32), none⟩] [0, 1, 7, 8, 33] [])
  (.cond (.t 33) (.seq (.reg [⟨some 4, .mv (.k (.str ⟨#[]⟩)), none⟩,
    ⟨some 5, .mv (.k (.int .i64 0)), none⟩,
    ⟨some 6, .mv (.k (.bool false)), none⟩] [4, 5, 6] [])
  (.ret)) (.skip)))
  (.seq (.seq (.reg [⟨some 35, .mv (.t 0), none⟩,
    ⟨some 36, .mv (.t 1), none⟩,
    ⟨some 37, .mv (.t 8), none⟩,
    ⟨some 38, .bin .add (.t 37) (.k (.int .i64 4)), none⟩,
    ⟨some 39, .sstr (.t 35) (some (.t 36)) (some (.t 38)), none⟩,
    ⟨some 40, .call 168 [.t 39] [] [], none⟩,
    ⟨some 34, .mv (.t 40), none⟩,
    ⟨some 41, .ext 0 (.t 34), none⟩,
    ⟨some 42, .ext 1 (.t 34), none⟩,
    ⟨some 10, .mv (.t 41), none⟩,
    ⟨some 11, .mv (.t 42), none⟩] [7, 8, 11] [])
  (.seq (.reg [⟨some 43, .mv (.t 11), none⟩,
    ⟨some 44, .not (.t 43), none⟩] [7, 8, 44] [])
  (.cond (.t 44) (.seq (.reg [⟨some 4, .mv (.k (.str ⟨#[]⟩)), none⟩,
    ⟨some 5, .mv (.k (.int .i64 0)), none⟩,
    ⟨some 6, .mv (.k (.bool false)), none⟩] [4, 5, 6] [])
  (.ret)) (.skip))))
  (.seq (.reg [⟨some 45, .mv (.t 7), none⟩,
    ⟨some 46, .mv (.t 8), none⟩,
    ⟨some 47, .bin .add (.t 46) (.k (.int .i64 4)), none⟩,
    ⟨some 4, .mv (.t 45), none⟩,
    ⟨some 5, .mv (.t 47), none⟩,
    ⟨some 6, .mv (.k (.bool true)), none⟩] [4, 5, 6] [])
  (.ret)))))
def impl_recordAt.m : Fn := { np := 2, body := impl_recordAt.b, res := [.tmp 4, .tmp 5, .tmp 6] }
def impl_recordAt.k (M : Nat → Option Body) : Prop := M 105 = some (.code impl_recordAt.m) ∧ impl_within.k M ∧ impl_Unsealed.k M ∧ impl_ReadShort.k M
def impl_ReadRecords.l0 : C := .block 1 (.seq (.reg [⟨some 11, .mv (.t 0), none⟩,
    ⟨some 12, .mv (.t 5), none⟩,
    ⟨some 13, .call 105 [.t 11, .t 12] [] [], none⟩,
    ⟨some 10, .mv (.t 13), none⟩,
    ⟨some 14, .ext 0 (.t 10), none⟩,
    ⟨some 15, .ext 1 (.t 10), none⟩,
    ⟨some 16, .ext 2 (.t 10), none⟩,
    ⟨some 6, .mv (.t 14), none⟩,
    ⟨some 7, .mv (.t 15), none⟩,
    ⟨some 8, .mv (.t 16), none⟩] [0, 4, 5, 6, 7, 8] [9, 24])
  (.seq (.seq (.reg [⟨some 17, .mv (.t 8), none⟩,
    ⟨some 18, .not (.t 17), none⟩] [0, 4, 5, 6, 7, 18] [9, 24])
  (.cond (.t 18) (.seq (.reg [⟨some 19, .mv (.t 4), none⟩,
    ⟨some 20, .mv (.t 5), none⟩,
    ⟨some 2, .mv (.t 19), none⟩,
    ⟨some 3, .mv (.t 20), none⟩] [2, 3] [2, 9, 24])
  (.ret)) (.skip)))
  (.seq (.reg [⟨some 21, .mv (.t 4), none⟩,
    ⟨some 22, .mv (.t 6), none⟩,
    ⟨some 23, .bslice 1 1 [.str ⟨#[]⟩] [(0, .t 22)], none⟩,
    ⟨some 24, .app 1 16 (.t 21) (.t 23), none⟩,
    ⟨some 4, .mv (.t 24), none⟩] [0, 4, 7] [9, 24])
  (.reg [⟨some 25, .mv (.t 7), none⟩,
    ⟨some 5, .mv (.t 25), none⟩] [0, 4, 5] [9, 24]))))
def impl_ReadRecords.b : C := .seq (.reg [⟨some 2, .nil 1, none⟩,
    ⟨some 3, .mv (.k (.int .i64 0)), none⟩] [0] [])
  (.seq (.reg [⟨some 9, .bslice 1 0 [.str ⟨#[]⟩] [], none⟩,
    ⟨some 4, .mv (.t 9), none⟩] [0, 4] [9, 24])
  (.seq (.reg [⟨some 5, .mv (.k (.int .i64 0)), none⟩] [0, 4, 5] [9, 24])
  (.block 0 (.loop impl_ReadRecords.l0))))
def impl_ReadRecords.m : Fn := { np := 1, body := impl_ReadRecords.b, res := [.tmp 2, .tmp 3] }
def impl_ReadRecords.k (M : Nat → Option Body) : Prop := M 13 = some (.code impl_ReadRecords.m) ∧ impl_recordAt.k M
def laws_eqStringS.l0 : C := .seq (.seq (.reg [⟨some 11, .mv (.t 5), none⟩,
    ⟨some 12, .mv (.t 0), none⟩,
    ⟨some 13, .len (.t 12), none⟩,
    ⟨some 14, .bin .lss (.t 11) (.t 13), none⟩] [0, 1, 5, 14] [])
  (.cond (.t 14) (.skip) (.exit 0)))
  (.seq (.block 1 (.seq (.regd [⟨some 17, .mv (.t 0), none⟩,
    ⟨some 18, .mv (.t 5), none⟩,
    ⟨some 19, .iaddr 1 (.t 17) (.t 18), none⟩,
    ⟨some 20, .load false 1 (.t 19), none⟩,
    ⟨some 21, .mv (.t 1), none⟩,
    ⟨some 22, .mv (.t 5), none⟩,
    ⟨some 23, .iaddr 1 (.t 21) (.t 22), none⟩,
    ⟨some 24, .load false 1 (.t 23), none⟩,
    ⟨some 25, .bin .neq (.t 20) (.t 24), none⟩] [[], [], [0, 1], [0, 1, 2], [], [], [4, 5], [4, 5, 6], [0, 1, 2, 3, 4, 5, 6, 7]] [0, 1, 5, 25] [])
  (.cond (.t 25) (.seq (.reg [⟨some 4, .mv (.k (.bool false)), none⟩] [4] [])
  (.ret)) (.skip))))
  (.reg [⟨some 15, .mv (.t 5), none⟩,
    ⟨some 16, .bin .add (.t 15) (.k (.int .i64 1)), none⟩,
    ⟨some 5, .mv (.t 16), none⟩] [0, 1, 5] []))
def laws_eqStringS.b : C := .seq (.reg [⟨some 4, .mv (.k (.bool false)), none⟩] [0, 1] [])
  (.seq (.seq (.reg [⟨some 6, .mv (.t 0), none⟩,
    ⟨some 7, .len (.t 6), none⟩,
    ⟨some 8, .mv (.t 1), none⟩,
    ⟨some 9, .len (.t 8), none⟩,
    ⟨some 10, .bin .neq (.t 7) (.t 9), none⟩] [0, 1, 10] [])
  (.cond (.t 10) (.seq (.reg [⟨some 4, .mv (.k (.bool false)), none⟩] [4] [])
  (.ret)) (.skip)))
  (.seq (.seq (.reg [⟨some 5, .mv (.k (.int .i64 0)), none⟩] [0, 1, 5] [])
  (.block 0 (.loop laws_eqStringS.l0)))
  (.seq (.reg [⟨some 4, .mv (.k (.bool true)), none⟩] [4] [])
  (.ret))))
def laws_eqStringS.m : Fn := { np := 2, body := laws_eqStringS.b, res := [.tmp 4] }
def laws_eqStringS.k (M : Nat → Option Body) : Prop := M 14 = some (.code laws_eqStringS.m)
def laws_markText.l0 : C := .seq (.seq (.reg [⟨some 6, .mv (.t 0), none⟩,
    ⟨some 7, .bin .gtr (.t 6) (.k (.int .i64 0)), none⟩] [0, 3, 7] [])
  (.cond (.t 7) (.skip) (.exit 0)))
  (.block 1 (.seq (.reg [⟨some 8, .mv (.t 0), none⟩,
    ⟨some 9, .bin .rem (.t 8) (.k (.int .i64 10)), none⟩,
    ⟨some 10, .bin .add (.k (.int .i64 48)) (.t 9), none⟩,
    ⟨some 11, .i2i .u8 (.t 10), none⟩,
    ⟨some 12, .bslice 1 1 [.int .u8 0] [(0, .t 11)], none⟩,
    ⟨some 13, .b2s (.t 12), none⟩,
    ⟨some 14, .mv (.t 3), none⟩,
    ⟨some 15, .bin .add (.t 13) (.t 14), none⟩,
    ⟨some 3, .mv (.t 15), none⟩] [0, 3] [])
  (.reg [⟨some 16, .mv (.t 0), none⟩,
    ⟨some 17, .bin .quo (.t 16) (.k (.int .i64 10)), none⟩,
    ⟨some 0, .mv (.t 17), none⟩] [0, 3] [])))
def laws_markText.b : C := .seq (.reg [⟨some 2, .mv (.k (.str ⟨#[]⟩)), none⟩] [0] [])
  (.seq (.seq (.reg [⟨some 4, .mv (.t 0), none⟩,
    ⟨some 5, .bin .leq (.t 4) (.k (.int .i64 0)), none⟩] [0, 5] [])
  (.cond (.t 5) (.seq (.reg [⟨some 2, .mv (.k (.str ⟨#[109, 48]⟩)), none⟩] [2] [])
  (.ret)) (.skip)))
  (.seq (.reg [⟨some 3, .mv (.k (.str ⟨#[]⟩)), none⟩] [0, 3] [])
  (.seq (.block 0 (.loop laws_markText.l0))
  (.seq (.reg [⟨some 18, .mv (.t 3), none⟩,
    ⟨some 19, .bin .add (.k (.str ⟨#[109]⟩)) (.t 18), none⟩,
    ⟨some 2, .mv (.t 19), none⟩] [2] [])
  (.ret)))))
def laws_markText.m : Fn := { np := 1, body := laws_markText.b, res := [.tmp 2] }
def laws_markText.k (M : Nat → Option Body) : Prop := M 106 = some (.code laws_markText.m)
def laws_markStringS.l0 : C := .seq (.seq (.reg [⟨some 6, .mv (.t 5), none⟩,
    ⟨some 7, .mv (.t 0), none⟩,
    ⟨some 8, .len (.t 7), none⟩,
    ⟨some 9, .bin .lss (.t 6) (.t 8), none⟩] [0, 1, 5, 9] [0])
  (.cond (.t 9) (.skip) (.exit 0)))
  (.seq (.block 1 (.seq (.reg [⟨some 12, .mv (.t 0), none⟩,
    ⟨some 13, .mv (.t 5), none⟩,
    ⟨some 14, .mv (.t 1), none⟩,
    ⟨some 15, .call 106 [.t 14] [] [], none⟩,
    ⟨some 16, .iaddr 1 (.t 12) (.t 13), none⟩,
    ⟨none, .store 1 (.t 16) (.t 15), none⟩] [0, 1, 5] [0])
  (.reg [⟨some 17, .mv (.t 1), none⟩,
    ⟨some 18, .bin .add (.t 17) (.k (.int .i64 1)), none⟩,
    ⟨some 1, .mv (.t 18), none⟩] [0, 1, 5] [0])))
  (.reg [⟨some 10, .mv (.t 5), none⟩,
    ⟨some 11, .bin .add (.t 10) (.k (.int .i64 1)), none⟩,
    ⟨some 5, .mv (.t 11), none⟩] [0, 1, 5] [0]))
def laws_markStringS.b : C := .seq (.reg [⟨some 4, .mv (.k (.int .i64 0)), none⟩] [0, 1] [0])
  (.seq (.seq (.reg [⟨some 5, .mv (.k (.int .i64 0)), none⟩] [0, 1, 5] [0])
  (.block 0 (.loop laws_markStringS.l0)))
  (.seq (.reg [⟨some 19, .mv (.t 1), none⟩,
    ⟨some 4, .mv (.t 19), none⟩] [4] [0])
  (.ret)))
def laws_markStringS.m : Fn := { np := 2, body := laws_markStringS.b, res := [.tmp 4] }
def laws_markStringS.k (M : Nat → Option Body) : Prop := M 15 = some (.code laws_markStringS.m) ∧ laws_markText.k M
def laws_heldStringS.l0 : C := .seq (.seq (.reg [⟨some 6, .mv (.t 5), none⟩,
    ⟨some 7, .mv (.t 0), none⟩,
    ⟨some 8, .len (.t 7), none⟩,
    ⟨some 9, .bin .lss (.t 6) (.t 8), none⟩] [0, 1, 5, 9] [])
  (.cond (.t 9) (.skip) (.exit 0)))
  (.seq (.block 1 (.seq (.seq (.regd [⟨some 12, .mv (.t 0), none⟩,
    ⟨some 13, .mv (.t 5), none⟩,
    ⟨some 14, .iaddr 1 (.t 12) (.t 13), none⟩,
    ⟨some 15, .load false 1 (.t 14), none⟩,
    ⟨some 16, .mv (.t 1), none⟩,
    ⟨some 17, .call 106 [.t 16] [] [], none⟩,
    ⟨some 18, .bin .neq (.t 15) (.t 17), none⟩] [[], [], [0, 1], [0, 1, 2], [], [4], [0, 1, 2, 3, 4, 5]] [0, 1, 5, 18] [])
  (.cond (.t 18) (.seq (.reg [⟨some 4, .mv (.k (.int .i64 (-1))), none⟩] [4] [])
  (.ret)) (.skip)))
  (.reg [⟨some 19, .mv (.t 1), none⟩,
    ⟨some 20, .bin .add (.t 19) (.k (.int .i64 1)), none⟩,
    ⟨some 1, .mv (.t 20), none⟩] [0, 1, 5] [])))
  (.reg [⟨some 10, .mv (.t 5), none⟩,
    ⟨some 11, .bin .add (.t 10) (.k (.int .i64 1)), none⟩,
    ⟨some 5, .mv (.t 11), none⟩] [0, 1, 5] []))
def laws_heldStringS.b : C := .seq (.reg [⟨some 4, .mv (.k (.int .i64 0)), none⟩] [0, 1] [])
  (.seq (.seq (.reg [⟨some 5, .mv (.k (.int .i64 0)), none⟩] [0, 1, 5] [])
  (.block 0 (.loop laws_heldStringS.l0)))
  (.seq (.reg [⟨some 21, .mv (.t 1), none⟩,
    ⟨some 4, .mv (.t 21), none⟩] [4] [])
  (.ret)))
def laws_heldStringS.m : Fn := { np := 2, body := laws_heldStringS.b, res := [.tmp 4] }
def laws_heldStringS.k (M : Nat → Option Body) : Prop := M 16 = some (.code laws_heldStringS.m) ∧ laws_markText.k M
def laws_FnExactReadRecords.b : C := .seq (.reg [⟨some 2, .mv (.k (.bool false)), none⟩] [0] [])
  (.seq (.seq (.reg [⟨some 11, .mv (.t 0), none⟩,
    ⟨some 12, .slen (.t 11), none⟩,
    ⟨some 13, .bin .gtr (.t 12) (.k (.int .i64 1048576)), none⟩] [0, 13] [])
  (.cond (.t 13) (.seq (.reg [⟨some 2, .mv (.k (.bool true)), none⟩] [2] [])
  (.ret)) (.skip)))
  (.seq (.reg [⟨some 15, .mv (.t 0), none⟩,
    ⟨some 16, .call 12 [.t 15] [] [], none⟩,
    ⟨some 14, .mv (.t 16), none⟩,
    ⟨some 17, .ext 0 (.t 14), none⟩,
    ⟨some 18, .ext 1 (.t 14), none⟩,
    ⟨some 3, .mv (.t 17), none⟩,
    ⟨some 4, .mv (.t 18), none⟩] [0, 3, 4] [])
  (.seq (.reg [⟨some 20, .mv (.t 0), none⟩,
    ⟨some 21, .call 13 [.t 20] [] [(0, 12100)], none⟩,
    ⟨some 19, .mv (.t 21), none⟩,
    ⟨some 22, .ext 0 (.t 19), none⟩,
    ⟨some 23, .ext 1 (.t 19), none⟩,
    ⟨some 5, .mv (.t 22), none⟩,
    ⟨some 6, .mv (.t 23), none⟩] [0, 3, 4, 5, 6] [12100])
  (.seq (.seq (.reg [⟨some 24, .mv (.t 5), none⟩,
    ⟨some 25, .mv (.t 3), none⟩,
    ⟨some 26, .call 14 [.t 24, .t 25] [] [], none⟩,
    ⟨some 27, .not (.t 26), none⟩,
    ⟨some 28, .mv (.t 27), none⟩,
    ⟨some 29, .mv (.t 6), some (28, false)⟩,
    ⟨some 30, .mv (.t 4), some (28, false)⟩,
    ⟨some 31, .bin .neq (.t 29) (.t 30), some (28, false)⟩,
    ⟨some 32, .pick (.t 28) (.k (.bool true)) (.t 31), none⟩] [0, 3, 4, 5, 32] [12100])
  (.cond (.t 32) (.seq (.reg [⟨some 2, .mv (.k (.bool false)), none⟩] [2] [])
  (.ret)) (.skip)))
  (.seq (.reg [⟨some 7, .mv (.k (.int .i64 1)), none⟩] [0, 3, 4, 5, 7] [12100])
  (.seq (.reg [⟨some 33, .mv (.t 5), none⟩,
    ⟨some 34, .mv (.t 7), none⟩,
    ⟨some 35, .call 15 [.t 33, .t 34] [0] [], none⟩,
    ⟨some 7, .mv (.t 35), none⟩] [0, 3, 4, 5, 7] [12100])
  (.seq (.reg [⟨some 8, .mv (.k (.int .i64 1)), none⟩] [0, 3, 4, 5, 7, 8] [12100])
  (.seq (.reg [⟨some 36, .mv (.t 5), none⟩,
    ⟨some 37, .mv (.t 8), none⟩,
    ⟨some 38, .call 16 [.t 36, .t 37] [] [], none⟩,
    ⟨some 8, .mv (.t 38), none⟩] [0, 3, 4, 5, 7, 8] [12100])
  (.seq (.seq (.reg [⟨some 39, .mv (.t 8), none⟩,
    ⟨some 40, .bin .lss (.t 39) (.k (.int .i64 0)), none⟩] [0, 3, 4, 5, 7, 8, 40] [12100])
  (.cond (.t 40) (.seq (.reg [⟨some 2, .mv (.k (.bool false)), none⟩] [2] [])
  (.ret)) (.skip)))
  (.seq (.seq (.reg [⟨some 41, .mv (.t 8), none⟩,
    ⟨some 42, .mv (.t 7), none⟩,
    ⟨some 43, .bin .neq (.t 41) (.t 42), none⟩] [0, 3, 4, 5, 7, 43] [12100])
  (.cond (.t 43) (.seq (.reg [⟨some 2, .mv (.k (.bool false)), none⟩] [2] [])
  (.ret)) (.skip)))
  (.seq (.reg [⟨some 45, .mv (.t 0), none⟩,
    ⟨some 46, .call 13 [.t 45] [] [], none⟩,
    ⟨some 44, .mv (.t 46), none⟩,
    ⟨some 47, .ext 0 (.t 44), none⟩,
    ⟨some 48, .ext 1 (.t 44), none⟩,
    ⟨some 9, .mv (.t 47), none⟩,
    ⟨some 10, .mv (.t 48), none⟩] [3, 4, 5, 7, 9, 10] [12100])
  (.seq (.seq (.reg [⟨some 49, .mv (.t 9), none⟩,
    ⟨some 50, .mv (.t 3), none⟩,
    ⟨some 51, .call 14 [.t 49, .t 50] [] [], none⟩,
    ⟨some 52, .not (.t 51), none⟩,
    ⟨some 53, .mv (.t 52), none⟩,
    ⟨some 54, .mv (.t 10), some (53, false)⟩,
    ⟨some 55, .mv (.t 4), some (53, false)⟩,
    ⟨some 56, .bin .neq (.t 54) (.t 55), some (53, false)⟩,
    ⟨some 57, .pick (.t 53) (.k (.bool true)) (.t 56), none⟩] [5, 7, 57] [12100])
  (.cond (.t 57) (.seq (.reg [⟨some 2, .mv (.k (.bool false)), none⟩] [2] [])
  (.ret)) (.skip)))
  (.seq (.reg [⟨some 8, .mv (.k (.int .i64 1)), none⟩] [5, 7, 8] [12100])
  (.seq (.reg [⟨some 58, .mv (.t 5), none⟩,
    ⟨some 59, .mv (.t 8), none⟩,
    ⟨some 60, .call 16 [.t 58, .t 59] [] [], none⟩,
    ⟨some 8, .mv (.t 60), none⟩] [7, 8] [])
  (.seq (.seq (.reg [⟨some 61, .mv (.t 8), none⟩,
    ⟨some 62, .bin .lss (.t 61) (.k (.int .i64 0)), none⟩] [7, 8, 62] [])
  (.cond (.t 62) (.seq (.reg [⟨some 2, .mv (.k (.bool false)), none⟩] [2] [])
  (.ret)) (.skip)))
  (.seq (.seq (.reg [⟨some 63, .mv (.t 8), none⟩,
    ⟨some 64, .mv (.t 7), none⟩,
    ⟨some 65, .bin .neq (.t 63) (.t 64), none⟩] [65] [])
  (.cond (.t 65) (.seq (.reg [⟨some 2, .mv (.k (.bool false)), none⟩] [2] [])
  (.ret)) (.skip)))
  (.seq (.reg [⟨some 2, .mv (.k (.bool true)), none⟩] [2] [])
  (.ret))))))))))))))))))
def laws_FnExactReadRecords.m : Fn := { np := 1, body := laws_FnExactReadRecords.b, res := [.tmp 2] }
def laws_FnExactReadRecords.k (M : Nat → Option Body) : Prop := M 364 = some (.code laws_FnExactReadRecords.m) ∧ spec_ReadRecords.k M ∧ impl_ReadRecords.k M ∧ laws_eqStringS.k M ∧ laws_markStringS.k M ∧ laws_heldStringS.k M
end Mx

/-
  What ReadVar and ReadShort answer.
-/
namespace Mx
open Go
variable {M : Nat → Option Body}
def pw (k : Nat) : Nat := 128 ^ k
/-- a number read from a place on; d: how many bytes may come; k: how many came; n: what they are -/
def rvGo (l : List UInt8) (a : Nat) : Nat → Nat → Nat → Option (Nat × Nat × Bool)
  | 0, _, _ => none
  | d + 1, k, n => if h : a + k < l.length then
      if l[a + k].toNat < 128 then some (if n + l[a + k].toNat % 128 * pw k ≤ 1000000000 ∧ varT (n + l[a + k].toNat % 128 * pw k) = (l.drop a).take (k + 1) then (n + l[a + k].toNat % 128 * pw k, a + k + 1, true) else (0, 0, false))
      else rvGo l a d (k + 1) (n + l[a + k].toNat % 128 * pw k)
    else none
def readVar (l : List UInt8) (a : Int) : Nat × Nat × Bool := if 0 ≤ a ∧ a ≤ l.length then (rvGo l a.toNat 5 0 0).getD (0, 0, false) else (0, 0, false)
theorem rvGo_end (l : List UInt8) (a d k n : Nat) (h : ¬ a + k < l.length) : rvGo l a d k n = none := by
  cases d with
  | zero => rfl
  | succ d => rw [rvGo, dif_neg h]
theorem rvGo_le (l : List UInt8) (a : Nat) : ∀ d k n r, rvGo l a d k n = some r → r.1 ≤ 1000000000 ∧ r.2.1 ≤ l.length ∧ (r.2.2 = true → a + k < r.2.1)
  | 0, k, n, r, h => by simp [rvGo] at h
  | d + 1, k, n, r, hr => by
    rw [rvGo] at hr
    by_cases h : a + k < l.length
    · rw [dif_pos h] at hr
      split at hr
      · simp only [Option.some.injEq] at hr
        subst hr
        split
        · rename_i hc
          exact ⟨hc.1, by simp only; omega, fun _ => by simp only; omega⟩
        · simp
      · have := rvGo_le l a d (k + 1) _ r hr
        exact ⟨this.1, this.2.1, fun q => by have := this.2.2 q; omega⟩
    · rw [dif_neg h] at hr; cases hr
theorem readVar_le (l : List UInt8) (a : Int) : (readVar l a).1 ≤ 1000000000 ∧ (readVar l a).2.1 ≤ l.length ∧ ((readVar l a).2.2 = true → 0 ≤ a ∧ a < (readVar l a).2.1) := by
  unfold readVar
  split
  · rename_i h
    cases hg : rvGo l a.toNat 5 0 0 with
    | none => simp
    | some r =>
      have := rvGo_le l a.toNat 5 0 0 r hg
      exact ⟨this.1, this.2.1, fun q => ⟨h.1, by have := this.2.2 q; simp only [Option.getD_some]; omega⟩⟩
  · simp
def spR (l : List UInt8) (a : Nat) (s : Nat × Nat) (x : Nat) : St := { t := [(0, .c (S l)), (1, .c (I a)), (7, .c (I s.2)), (8, .c (I (pw s.1 : Nat))), (9, .c (I ((a : Int) + s.1)))], o := [], n := x }
def rvFin (q : Option (Nat × Nat × Bool)) (m : St) : Out × St := match q with
  | some r => (.ret, { t := [(4, .c (I r.1)), (5, .c (I r.2.1)), (6, .c (.bool r.2.2))], o := [], n := m.n })
  | none => (.exit 0, m)
theorem rvFin_ne (q : Option (Nat × Nat × Bool)) (m : St) : (rvFin q m).1 ≠ .normal := by
  cases q <;> simp [rvFin]
theorem pow_le5 {k : Nat} (h : k ≤ 5) : pw k ≤ 34359738368 := by
  have : k = 0 ∨ k = 1 ∨ k = 2 ∨ k = 3 ∨ k = 4 ∨ k = 5 := by omega
  rcases this with rfl | rfl | rfl | rfl | rfl | rfl <;> decide +kernel
theorem pw_succ (k : Nat) : pw (k + 1) = pw k * 128 := Nat.pow_succ 128 k
theorem step_lt {n k b : Nat} (h : n < pw k) : n + b % 128 * pw k < pw (k + 1) := by
  have h1 : b % 128 ≤ 127 := by omega
  have h2 : b % 128 * pw k ≤ 127 * pw k := Nat.mul_le_mul_right _ h1
  rw [pw_succ]; omega
theorem spec_ReadVar.says (h : spec_ReadVar.k M) (l : List UInt8) (hl : l.length ≤ 4611686018427387904) (a : Int) :
    run M 221 [.c (S l), .c (I a)] [] = some (.tup [.c (I (readVar l a).1), .c (I (readVar l a).2.1), .c (.bool (readVar l a).2.2)], []) := by
  obtain ⟨h0, k1, k2⟩ := h
  have hw := spec_l01In.says k1 a 0 l.length
  refine run_code (b := spec_ReadVar.m) h0 ⟨7, ?_⟩
  by_cases c : 0 ≤ a ∧ a ≤ l.length
  rotate_left
  · have hb : (decide (0 ≤ a) && decide (a ≤ (l.length : Int))) = false := by
      rw [Bool.eq_false_iff]; intro hh; simp only [Bool.and_eq_true, decide_eq_true_eq] at hh; omega
    rw [hb] at hw
    simp [exB, spec_ReadVar.m, spec_ReadVar.b, List.range_succ, hw, readVar, c]
  obtain ⟨c1, c2⟩ := c
  obtain ⟨a, rfl⟩ := Int.eq_ofNat_of_zero_le c1
  have c3 : a ≤ l.length := by omega
  simp [c1, c3] at hw
  obtain ⟨g, hr⟩ := loop_all (f := exC (run M) 7 spec_ReadVar.l0) (spR l a) (fun s => s.1 ≤ 5 ∧ s.2 < pw s.1) (fun s => 5 - s.1) (fun s => rvGo l a (5 - s.1) s.1 s.2) rvFin
    (by
      rintro ⟨k, n⟩ x ⟨h1, h2⟩
      simp only at h1 h2
      have hp := pow_le5 h1
      have e2 : IntKind.i64.wrap ((a : Int) + 5) = (a : Int) + 5 := wrap_i64 (by omega) (by omega)
      have stop : (∃ m, exC (run M) 7 spec_ReadVar.l0 (spR l a (k, n) x) = some (rvFin (rvGo l a (5 - k) k n) m)) → (∃ s' y, exC (run M) 7 spec_ReadVar.l0 (spR l a (k, n) x) = some (.normal, spR l a s' y) ∧ (s'.1 ≤ 5 ∧ s'.2 < pw s'.1) ∧ 5 - s'.1 < 5 - (k, n).1 ∧ rvGo l a (5 - s'.1) s'.1 s'.2 = rvGo l a (5 - (k, n).1) (k, n).1 (k, n).2) ∨ (∃ z, exC (run M) 7 spec_ReadVar.l0 (spR l a (k, n) x) = some (rvFin (rvGo l a (5 - (k, n).1) (k, n).1 (k, n).2) z) ∧ (rvFin (rvGo l a (5 - (k, n).1) (k, n).1 (k, n).2) z).1 ≠ .normal) := fun ⟨m, hm⟩ => .inr ⟨m, hm, rvFin_ne _ _⟩
      by_cases hlt : a + k < l.length
      rotate_left
      · have d1 : ¬ (a : Int) + k < l.length := by omega
        refine stop ?_
        simp only [rvGo_end l a _ k n hlt, rvFin]
        simp [spR, spec_ReadVar.l0, d1]
      have d1 : (a : Int) + k < l.length := by omega
      by_cases h5 : k < 5
      rotate_left
      · have : k = 5 := by omega
        subst this
        refine stop ?_
        simp only [Nat.sub_self, rvGo, rvFin]
        simp at d1
        simp [spR, spec_ReadVar.l0, d1, e2]
      have d2 : (a : Int) + k < a + 5 := by omega
      have hs := step_lt (b := l[a + k].toNat) h2
      have hp' := pow_le5 (k := k + 1) (by omega)
      have hd : 5 - k = (5 - (k + 1)) + 1 := by omega
      obtain ⟨b, hb⟩ : ∃ b, l[a + k] = b := ⟨_, rfl⟩
      rw [hb] at hs
      have hbl := b.toNat_lt
      have e3 : IntKind.i64.wrap (b.toNat : Int) = b.toNat := wrap_i64 (by omega) (by omega)
      have q4 : ((b.toNat : Int) % 128 * (pw k : Nat)) = ((b.toNat % 128 * pw k : Nat) : Int) := by push_cast; rfl
      have e4 : IntKind.i64.wrap ((b.toNat : Int) % 128 * (pw k : Nat)) = (b.toNat : Int) % 128 * (pw k : Nat) := by rw [q4]; exact wrap_i64 (by omega) (by omega)
      have e5 : IntKind.i64.wrap ((n : Int) + (b.toNat : Int) % 128 * (pw k : Nat)) = (n : Int) + (b.toNat : Int) % 128 * (pw k : Nat) := by rw [q4]; exact wrap_i64 (by omega) (by omega)
      have e6 : IntKind.i64.wrap (((pw k : Nat) : Int) * 128) = ((pw (k + 1) : Nat) : Int) := by
        rw [show ((pw k : Nat) : Int) * 128 = ((pw (k + 1) : Nat) : Int) by rw [pw_succ]; push_cast; rfl]
        exact wrap_i64 (by omega) (by omega)
      have e7 : IntKind.i64.wrap ((a : Int) + k + 1) = (a : Int) + (k + 1) := by rw [wrap_i64 (by omega) (by omega)]; omega
      have e8 : ((a : Int) + k).toNat = a + k := by omega
      have e9 : (b.toNat : Int).tmod 128 = (b.toNat : Int) % 128 := Int.tmod_eq_emod_of_nonneg (by omega)
      have h1' := spec_l01Var.says k2 (n + b.toNat % 128 * pw k) (by omega)
      simp only [Int.natCast_add, Int.natCast_mul, Int.natCast_emod, Int.cast_ofNat_Int] at h1'
      have f0 : (0 : Int) ≤ (a : Int) + k := by omega
      by_cases hb128 : b.toNat < 128
      rotate_left
      · left
        have b1 : ¬ (b.toNat : Int) < 128 := by omega
        obtain ⟨y, hy⟩ : ∃ y, exC (run M) 7 spec_ReadVar.l0 (spR l a (k, n) x) = some (.normal, spR l a (k + 1, n + b.toNat % 128 * pw k) y) := by
          simp [spR, spec_ReadVar.l0, d1, d2, e2, e3, e4, e5, e6, e7, e8, e9, f0, hlt, bs_get, hb, b1]
        refine ⟨(k + 1, n + b.toNat % 128 * pw k), y, hy, ⟨h5, hs⟩, by simp only; omega, ?_⟩
        simp only [hd]
        rw [rvGo, dif_pos hlt, hb, if_neg hb128]
      refine stop ?_
      have b1 : (b.toNat : Int) < 128 := by omega
      rw [hd, rvGo, dif_pos hlt, hb, if_pos hb128]
      have f1 : (0 : Int) ≤ (a : Int) + (k + 1) := by omega
      have f2 : ((a : Int) + (k + 1)).toNat = a + (k + 1) := by omega
      by_cases hN : n + b.toNat % 128 * pw k ≤ 1000000000
      rotate_left
      · rw [if_neg (fun q => hN q.1)]
        have hN' : 1000000000 < (n : Int) + (b.toNat : Int) % 128 * (pw k : Nat) := by rw [q4]; omega
        simp [rvFin, spR, spec_ReadVar.l0, d1, d2, e2, e3, e4, e5, e6, e7, e8, e9, f0, hlt, bs_get, hb, b1, hN']
        exact ⟨⟨[], [], _⟩, rfl⟩
      have hN' : ¬ 1000000000 < (n : Int) + (b.toNat : Int) % 128 * (pw k : Nat) := by rw [q4]; omega
      obtain ⟨w, hw'⟩ : ∃ w, (l.drop a).take (k + 1) = w := ⟨_, rfl⟩
      have w1 : (l.take (a + (k + 1))).drop a = w := by rw [← hw', List.drop_take]; congr 1; omega
      have w2 : (l.drop a).take (a + (k + 1) - a) = w := by rw [← hw']; congr 1; omega
      have g1 : a ≤ a + (k + 1) ∧ a + (k + 1) ≤ l.length := by omega
      rw [hw']
      by_cases hv : varT (n + b.toNat % 128 * pw k) = w
      · rw [if_pos ⟨hN, hv⟩]
        simp [rvFin, spR, spec_ReadVar.l0, d1, d2, e2, e3, e4, e5, e6, e7, e8, e9, f0, hlt, bs_get, hb, b1, hN', h1', f1, f2, w1, w2, g1, hv]
        exact ⟨by omega, ⟨[], [], _⟩, rfl⟩
      · rw [if_neg (fun q => hv q.2)]
        simp [rvFin, spR, spec_ReadVar.l0, d1, d2, e2, e3, e4, e5, e6, e7, e8, e9, f0, hlt, bs_get, hb, b1, hN', h1', f1, f2, w1, w2, g1, hv]
        exact ⟨⟨[], [], _⟩, rfl⟩)
    7 (0, 0) ⟨by simp, by simp [pw]⟩ (by simp)
  simp only [Nat.sub_zero] at hr
  have hp0 : pw 0 = 1 := rfl
  simp only [readVar]
  rw [if_pos ⟨c1, c2⟩]
  simp only [Int.toNat_natCast]
  cases hg : rvGo l a 5 0 0 with
  | none =>
    simp [spR, hg, rvFin, hp0] at hr
    simp [exB, spec_ReadVar.m, spec_ReadVar.b, List.range_succ, hw, hr]
  | some r =>
    simp [spR, hg, rvFin, hp0] at hr
    simp [exB, spec_ReadVar.m, spec_ReadVar.b, List.range_succ, hw, hr]

def imR (l : List UInt8) (a : Nat) (s : Nat × Nat) (x : Nat) : St := { t := [(0, .c (S l)), (1, .c (I a)), (7, .c (I s.2)), (8, .c (I s.1))], o := [], n := x }
theorem impl_ReadVar.says (h : impl_ReadVar.k M) (l : List UInt8) (hl : l.length ≤ 4611686018427387904) (a : Int) :
    run M 231 [.c (S l), .c (I a)] [] = some (.tup [.c (I (readVar l a).1), .c (I (readVar l a).2.1), .c (.bool (readVar l a).2.2)], []) := by
  obtain ⟨h0, k1, k2⟩ := h
  have hw := impl_within.says k1 a 0 l.length
  refine run_code (b := impl_ReadVar.m) h0 ⟨7, ?_⟩
  by_cases c : 0 ≤ a ∧ a ≤ l.length
  rotate_left
  · have hb : (decide (0 ≤ a) && decide (a ≤ (l.length : Int))) = false := by
      rw [Bool.eq_false_iff]; intro hh; simp only [Bool.and_eq_true, decide_eq_true_eq] at hh; omega
    rw [hb] at hw
    simp [exB, impl_ReadVar.m, impl_ReadVar.b, List.range_succ, hw, readVar, c]
  obtain ⟨c1, c2⟩ := c
  obtain ⟨a, rfl⟩ := Int.eq_ofNat_of_zero_le c1
  have c3 : a ≤ l.length := by omega
  simp [c1, c3] at hw
  obtain ⟨g, hr⟩ := loop_all (f := exC (run M) 7 impl_ReadVar.l0) (imR l a) (fun s => s.1 ≤ 5 ∧ s.2 < pw s.1) (fun s => 5 - s.1) (fun s => rvGo l a (5 - s.1) s.1 s.2) rvFin
    (by
      rintro ⟨k, n⟩ x ⟨h1, h2⟩
      simp only at h1 h2
      have hp := pow_le5 h1
      have stop : (∃ m, exC (run M) 7 impl_ReadVar.l0 (imR l a (k, n) x) = some (rvFin (rvGo l a (5 - k) k n) m)) → (∃ s' y, exC (run M) 7 impl_ReadVar.l0 (imR l a (k, n) x) = some (.normal, imR l a s' y) ∧ (s'.1 ≤ 5 ∧ s'.2 < pw s'.1) ∧ 5 - s'.1 < 5 - (k, n).1 ∧ rvGo l a (5 - s'.1) s'.1 s'.2 = rvGo l a (5 - (k, n).1) (k, n).1 (k, n).2) ∨ (∃ z, exC (run M) 7 impl_ReadVar.l0 (imR l a (k, n) x) = some (rvFin (rvGo l a (5 - (k, n).1) (k, n).1 (k, n).2) z) ∧ (rvFin (rvGo l a (5 - (k, n).1) (k, n).1 (k, n).2) z).1 ≠ .normal) := fun ⟨m, hm⟩ => .inr ⟨m, hm, rvFin_ne _ _⟩
      by_cases h5 : k < 5
      rotate_left
      · have : k = 5 := by omega
        subst this
        refine stop ?_
        simp only [Nat.sub_self, rvGo, rvFin]
        simp [imR, impl_ReadVar.l0]
      have d2 : (k : Int) < 5 := by omega
      have e0 : IntKind.i64.wrap ((a : Int) + k) = (a : Int) + k := wrap_i64 (by omega) (by omega)
      by_cases hlt : a + k < l.length
      rotate_left
      · have d1 : ¬ (a : Int) + k < l.length := by omega
        refine stop ?_
        simp only [rvGo_end l a _ k n hlt, rvFin]
        simp [imR, impl_ReadVar.l0, d1, d2, e0]
      have d1 : (a : Int) + k < l.length := by omega
      have hs := step_lt (b := l[a + k].toNat) h2
      have hp' := pow_le5 (k := k + 1) (by omega)
      have hd : 5 - k = (5 - (k + 1)) + 1 := by omega
      obtain ⟨b, hb⟩ : ∃ b, l[a + k] = b := ⟨_, rfl⟩
      rw [hb] at hs
      have hbl := b.toNat_lt
      have e3 : andI .u8 (b.toNat : Int) 127 = (b.toNat : Int) % 128 := by
        have := and_u8 b.toNat 127 (by omega) (by omega)
        rw [and_127] at this
        rw [show (127 : Int) = ((127 : Nat) : Int) from rfl, this]; omega
      have e3' : IntKind.i64.wrap ((b.toNat : Int) % 128) = (b.toNat : Int) % 128 := wrap_i64 (by omega) (by omega)
      have e4 : IntKind.i64.wrap (7 * (k : Int)) = 7 * (k : Int) := wrap_i64 (by omega) (by omega)
      have e4' : (7 * (k : Int)).toNat = 7 * k := by omega
      have e4'' : min (7 * k) 64 = 7 * k := by omega
      have q4 : ((b.toNat : Int) % 128 * (pw k : Nat)) = ((b.toNat % 128 * pw k : Nat) : Int) := by push_cast; rfl
      have q5 : (2 : Int) ^ (7 * k) = (pw k : Nat) := by
        unfold pw
        rw [Int.pow_mul]; push_cast; rfl
      have e5 : IntKind.i64.wrap ((b.toNat : Int) % 128 * (pw k : Nat)) = (b.toNat : Int) % 128 * (pw k : Nat) := by rw [q4]; exact wrap_i64 (by omega) (by omega)
      have e6 : orI .i64 (n : Int) ((b.toNat : Int) % 128 * (pw k : Nat)) = (n : Int) + (b.toNat : Int) % 128 * (pw k : Nat) := by
        rw [q4, or_i64 n (b.toNat % 128 * pw k) (by omega) (by omega)]
        have := or_high n (b.toNat % 128) k h2
        unfold pw at this ⊢
        rw [this]; push_cast; rfl
      have e7 : IntKind.i64.wrap ((k : Int) + 1) = (k : Int) + 1 := wrap_i64 (by omega) (by omega)
      have e7' : IntKind.i64.wrap ((a : Int) + k + 1) = (a : Int) + (k + 1) := by rw [wrap_i64 (by omega) (by omega)]; omega
      have e8 : ((a : Int) + k).toNat = a + k := by omega
      have h1' := impl_VarText.says k2 (n + b.toNat % 128 * pw k) (by omega)
      simp only [Int.natCast_add, Int.natCast_mul, Int.natCast_emod, Int.cast_ofNat_Int] at h1'
      have f0 : (0 : Int) ≤ (a : Int) + k := by omega
      have f3 : (0 : Int) ≤ 7 * (k : Int) := by omega
      have f4 : ¬ 7 * (k : Int) < 0 := by omega
      by_cases hb128 : b.toNat < 128
      rotate_left
      · left
        have b1 : 127 < (b.toNat : Int) := by omega
        obtain ⟨y, hy⟩ : ∃ y, exC (run M) 7 impl_ReadVar.l0 (imR l a (k, n) x) = some (.normal, imR l a (k + 1, n + b.toNat % 128 * pw k) y) := by
          simp [imR, impl_ReadVar.l0, d1, d2, e0, e3, e3', e4, e4', e4'', e5, e6, e7, e8, q5, f0, f3, f4, hlt, bs_get, hb, b1, IntKind.bits]
        refine ⟨(k + 1, n + b.toNat % 128 * pw k), y, hy, ⟨h5, hs⟩, by simp only; omega, ?_⟩
        simp only [hd]
        rw [rvGo, dif_pos hlt, hb, if_neg hb128]
      refine stop ?_
      have b1 : ¬ 127 < (b.toNat : Int) := by omega
      rw [hd, rvGo, dif_pos hlt, hb, if_pos hb128]
      have f1 : (0 : Int) ≤ (a : Int) + (k + 1) := by omega
      have f2 : ((a : Int) + (k + 1)).toNat = a + (k + 1) := by omega
      by_cases hN : n + b.toNat % 128 * pw k ≤ 1000000000
      rotate_left
      · rw [if_neg (fun q => hN q.1)]
        simp only [hN, if_false, decide_false] at h1'
        simp [rvFin, imR, impl_ReadVar.l0, d1, d2, e0, e3, e3', e4, e4', e4'', e5, e6, e7, e8, q5, f0, f3, f4, hlt, bs_get, hb, b1, h1', IntKind.bits]
        exact ⟨⟨[], [], _⟩, rfl⟩
      simp only [hN, if_true, decide_true] at h1'
      obtain ⟨w, hw'⟩ : ∃ w, (l.drop a).take (k + 1) = w := ⟨_, rfl⟩
      have w1 : (l.take (a + (k + 1))).drop a = w := by rw [← hw', List.drop_take]; congr 1; omega
      have w2 : (l.drop a).take (a + (k + 1) - a) = w := by rw [← hw']; congr 1; omega
      have g1 : a ≤ a + (k + 1) ∧ a + (k + 1) ≤ l.length := by omega
      rw [hw']
      by_cases hv : varT (n + b.toNat % 128 * pw k) = w
      · rw [if_pos ⟨hN, hv⟩]
        simp [rvFin, imR, impl_ReadVar.l0, d1, d2, e0, e3, e3', e4, e4', e4'', e5, e6, e7, e7', e8, q5, f0, f3, f4, hlt, bs_get, hb, b1, h1', f1, f2, w1, w2, g1, hv, IntKind.bits]
        exact ⟨by omega, ⟨[], [], _⟩, rfl⟩
      · rw [if_neg (fun q => hv q.2)]
        simp [rvFin, imR, impl_ReadVar.l0, d1, d2, e0, e3, e3', e4, e4', e4'', e5, e6, e7, e7', e8, q5, f0, f3, f4, hlt, bs_get, hb, b1, h1', f1, f2, w1, w2, g1, hv, IntKind.bits]
        exact ⟨⟨[], [], _⟩, rfl⟩)
    7 (0, 0) ⟨by simp, by simp [pw]⟩ (by simp)
  simp only [Nat.sub_zero] at hr
  simp only [readVar]
  rw [if_pos ⟨c1, c2⟩]
  simp only [Int.toNat_natCast]
  cases hg : rvGo l a 5 0 0 with
  | none =>
    simp [imR, hg, rvFin] at hr
    simp [exB, impl_ReadVar.m, impl_ReadVar.b, List.range_succ, hw, hr]
  | some r =>
    simp [imR, hg, rvFin] at hr
    simp [exB, impl_ReadVar.m, impl_ReadVar.b, List.range_succ, hw, hr]

/-- a short text read from a place on -/
def readShort (l : List UInt8) (a : Int) : List UInt8 × Nat × Bool :=
  if (readVar l a).2.2 = true ∧ (readVar l a).1 ≤ 20000 ∧ (readVar l a).1 + (readVar l a).2.1 ≤ l.length then ((l.drop (readVar l a).2.1).take (readVar l a).1, (readVar l a).2.1 + (readVar l a).1, true) else ([], 0, false)
theorem spec_ReadShort.says (h : spec_ReadShort.k M) (l : List UInt8) (hl : l.length ≤ 4611686018427387904) (a : Int) :
    run M 206 [.c (S l), .c (I a)] [] = some (.tup [.c (S (readShort l a).1), .c (I (readShort l a).2.1), .c (.bool (readShort l a).2.2)], []) := by
  have h1 := spec_ReadVar.says h.2 l hl a
  obtain ⟨q1, q2, _⟩ := readVar_le l a
  refine run_code (b := spec_ReadShort.m) h.1 ⟨0, ?_⟩
  unfold readShort
  generalize (readVar l a).1 = n at *
  generalize (readVar l a).2.1 = f at *
  generalize (readVar l a).2.2 = ok at *
  cases ok with
  | false => simp [exB, spec_ReadShort.m, spec_ReadShort.b, List.range_succ, h1]
  | true =>
    by_cases c1 : n ≤ 20000
    rotate_left
    · have c1' : 20000 < (n : Int) := by omega
      simp [exB, spec_ReadShort.m, spec_ReadShort.b, List.range_succ, h1, c1, c1']
    have c1' : ¬ 20000 < (n : Int) := by omega
    have e1 : IntKind.i64.wrap ((l.length : Int) - f) = (l.length : Int) - f := wrap_i64 (by omega) (by omega)
    by_cases c2 : n + f ≤ l.length
    rotate_left
    · have c2' : (l.length : Int) - f < n := by omega
      simp [exB, spec_ReadShort.m, spec_ReadShort.b, List.range_succ, h1, c1, c1', c2, c2', e1]
    have c2' : ¬ (l.length : Int) - f < n := by omega
    have e2 : IntKind.i64.wrap ((f : Int) + n) = (f : Int) + n := wrap_i64 (by omega) (by omega)
    have e3 : ((f : Int) + n).toNat = f + n := by omega
    have e4 : (0 : Int) ≤ (f : Int) + n := by omega
    have e5 : f ≤ f + n ∧ f + n ≤ l.length := by omega
    obtain ⟨w, hw⟩ : ∃ w, (l.drop f).take n = w := ⟨_, rfl⟩
    have w1 : (l.take (f + n)).drop f = w := by rw [← hw, List.drop_take]; congr 1; omega
    have w2 : (l.drop f).take (f + n - f) = w := by rw [← hw]; congr 1; omega
    simp [exB, spec_ReadShort.m, spec_ReadShort.b, List.range_succ, h1, c1, c1', c2, c2', e1, e2, e3, e4, e5, hw, w1, w2]
theorem impl_ReadShort.says (h : impl_ReadShort.k M) (l : List UInt8) (hl : l.length ≤ 4611686018427387904) (a : Int) :
    run M 207 [.c (S l), .c (I a)] [] = some (.tup [.c (S (readShort l a).1), .c (I (readShort l a).2.1), .c (.bool (readShort l a).2.2)], []) := by
  have h1 := impl_ReadVar.says h.2 l hl a
  obtain ⟨q1, q2, _⟩ := readVar_le l a
  refine run_code (b := impl_ReadShort.m) h.1 ⟨0, ?_⟩
  unfold readShort
  generalize (readVar l a).1 = n at *
  generalize (readVar l a).2.1 = f at *
  generalize (readVar l a).2.2 = ok at *
  cases ok with
  | false => simp [exB, impl_ReadShort.m, impl_ReadShort.b, List.range_succ, h1]
  | true =>
    by_cases c1 : n ≤ 20000
    rotate_left
    · have c1' : 20000 < (n : Int) := by omega
      simp [exB, impl_ReadShort.m, impl_ReadShort.b, List.range_succ, h1, c1, c1']
    have c1' : ¬ 20000 < (n : Int) := by omega
    have e1 : IntKind.i64.wrap ((l.length : Int) - f) = (l.length : Int) - f := wrap_i64 (by omega) (by omega)
    by_cases c2 : n + f ≤ l.length
    rotate_left
    · have c2' : (l.length : Int) - f < n := by omega
      simp [exB, impl_ReadShort.m, impl_ReadShort.b, List.range_succ, h1, c1, c1', c2, c2', e1]
    have c2' : ¬ (l.length : Int) - f < n := by omega
    have e2 : IntKind.i64.wrap ((f : Int) + n) = (f : Int) + n := wrap_i64 (by omega) (by omega)
    have e3 : ((f : Int) + n).toNat = f + n := by omega
    have e4 : (0 : Int) ≤ (f : Int) + n := by omega
    have e5 : f ≤ f + n ∧ f + n ≤ l.length := by omega
    obtain ⟨w, hw⟩ : ∃ w, (l.drop f).take n = w := ⟨_, rfl⟩
    have w1 : (l.take (f + n)).drop f = w := by rw [← hw, List.drop_take]; congr 1; omega
    have w2 : (l.drop f).take (f + n - f) = w := by rw [← hw]; congr 1; omega
    simp [exB, impl_ReadShort.m, impl_ReadShort.b, List.range_succ, h1, c1, c1', c2, c2', e1, e2, e3, e4, e5, hw, w1, w2]
end Mx

/-
  What Unsealed answers.
-/
namespace Mx
open Go
variable {M : Nat → Option Body}
def fourN (a b c d : UInt8) : Nat := a.toNat * 16777216 + b.toNat * 65536 + c.toNat * 256 + d.toNat
theorem byteOf_eq (x : Int) (b : UInt8) : byteOf x = b ↔ x % 256 = b.toNat := by
  have hb := b.toNat_lt
  unfold byteOf
  rw [← UInt8.toNat_inj]
  rw [UInt8.toNat_ofNat']
  omega
theorem four_eq {x : Int} (h : in32 x) (a b c d : UInt8) : four x = [a, b, c, d] ↔ x = fourN a b c d := by
  have ha := a.toNat_lt
  have hb := b.toNat_lt
  have hc := c.toNat_lt
  have hd := d.toNat_lt
  obtain ⟨h1, h2⟩ := h
  simp only [four, List.cons.injEq, and_true, byteOf_eq, fourN]
  omega
theorem or_two (n k d : Nat) (h : n < 2 ^ k) : d * 2 ^ k ||| n = d * 2 ^ k + n := by
  have := Nat.two_pow_add_eq_or_of_lt (i := k) (b := n) h d
  rw [Nat.mul_comm d, ← this]
theorem or_m {m k d n : Nat} (hm : m = 2 ^ k) (h : n < m) : d * m ||| n = d * m + n := by subst hm; exact or_two n k d h
theorem z_two (a b : Nat) : a * 16777216 + b * 65536 = (a * 256 + b) * 65536 := by rw [Nat.add_mul, Nat.mul_assoc]
theorem z_three (a b c : Nat) : (a * 256 + b) * 65536 + c * 256 = (a * 65536 + b * 256 + c) * 256 := by simp only [Nat.add_mul, Nat.mul_assoc]
theorem fourAt_run (l : List UInt8) (n n1 n2 n3 : Nat) (a b c d : Int) (i0 : n < l.length) (i1 : n1 < l.length) (i2 : n2 < l.length) (i3 : n3 < l.length) (ha : (l[n].toNat : Int) = a) (hb : (l[n1].toNat : Int) = b) (hc : (l[n2].toNat : Int) = c) (hd : (l[n3].toNat : Int) = d)
    (w11 : IntKind.i64.wrap ((n : Int) + 1) = (n1 : Int)) (w12 : IntKind.i64.wrap ((n : Int) + 2) = (n2 : Int)) (w13 : IntKind.i64.wrap ((n : Int) + 3) = (n3 : Int)) (va : IntKind.i64.wrap a = a) (vb : IntKind.i64.wrap b = b) (vc : IntKind.i64.wrap c = c) (vd : IntKind.i64.wrap d = d)
    (y1 y2 y3 z1 z2 z3 : Int) (sh1 : shiftBin .shl .i64 a 24 = some (.int .i64 y1)) (sh2 : shiftBin .shl .i64 b 16 = some (.int .i64 y2)) (sh3 : shiftBin .shl .i64 c 8 = some (.int .i64 y3))
    (o1 : orI .i64 y1 y2 = z1) (o2 : orI .i64 z1 y3 = z2) (o3 : orI .i64 z2 d = z3) :
    exB (run M) 0 impl_fourAt.m [.c (S l), .c (I n)] [] = some (.c (I z3), []) := by
  simp [exB, impl_fourAt.m, impl_fourAt.b, List.range_succ, bs_get, i0, i1, i2, i3, ha, hb, hc, hd, w11, w12, w13, va, vb, vc, vd, sh1, sh2, sh3, o1, o2, o3, -shiftBin]
theorem impl_fourAt.says' (h : impl_fourAt.k M) (l : List UInt8) (n n1 n2 n3 : Nat) (m1 : n1 = n + 1) (m2 : n2 = n + 2) (m3 : n3 = n + 3) (i0 : n < l.length) (i1 : n1 < l.length) (i2 : n2 < l.length) (i3 : n3 < l.length) (hl : l.length ≤ 4611686018427387904) :
    run M 236 [.c (S l), .c (I n)] [] = some (.c (I (fourN l[n] l[n1] l[n2] l[n3])), []) := by
  refine run_code (b := impl_fourAt.m) h ⟨0, ?_⟩
  obtain ⟨a, ha⟩ : ∃ b, l[n] = b := ⟨_, rfl⟩
  obtain ⟨b, hb⟩ : ∃ b, l[n1] = b := ⟨_, rfl⟩
  obtain ⟨c, hc⟩ : ∃ b, l[n2] = b := ⟨_, rfl⟩
  obtain ⟨d, hd⟩ : ∃ b, l[n3] = b := ⟨_, rfl⟩
  rw [ha, hb, hc, hd]
  have ha' := a.toNat_lt
  have hb' := b.toNat_lt
  have hc' := c.toNat_lt
  have hd' := d.toNat_lt
  have w11 : IntKind.i64.wrap ((n : Int) + 1) = (n1 : Int) := by rw [wrap_i64 (by omega) (by omega)]; omega
  have w12 : IntKind.i64.wrap ((n : Int) + 2) = (n2 : Int) := by rw [wrap_i64 (by omega) (by omega)]; omega
  have w13 : IntKind.i64.wrap ((n : Int) + 3) = (n3 : Int) := by rw [wrap_i64 (by omega) (by omega)]; omega
  clear m1 m2 m3
  have v : ∀ x : UInt8, IntKind.i64.wrap (x.toNat : Int) = x.toNat := fun x => wrap_i64 (by omega) (by have := x.toNat_lt; omega)
  have s1 : IntKind.i64.wrap ((a.toNat : Int) * 16777216) = (a.toNat : Int) * 16777216 := wrap_i64 (by omega) (by omega)
  have s2 : IntKind.i64.wrap ((b.toNat : Int) * 65536) = (b.toNat : Int) * 65536 := wrap_i64 (by omega) (by omega)
  have s3 : IntKind.i64.wrap ((c.toNat : Int) * 256) = (c.toNat : Int) * 256 := wrap_i64 (by omega) (by omega)
  obtain ⟨z1, hz1⟩ : ∃ z : Nat, z = a.toNat * 16777216 + b.toNat * 65536 := ⟨_, rfl⟩
  obtain ⟨z2, hz2⟩ : ∃ z : Nat, z = z1 + c.toNat * 256 := ⟨_, rfl⟩
  obtain ⟨z3, hz3⟩ : ∃ z : Nat, z = z2 + d.toNat := ⟨_, rfl⟩
  have o1 : orI .i64 ((a.toNat : Int) * 16777216) ((b.toNat : Int) * 65536) = (z1 : Int) := by
    have := or_i64 (a.toNat * 16777216) (b.toNat * 65536) (by omega) (by omega)
    rw [or_m (m := 16777216) (k := 24) (by simp) (by omega), ← hz1] at this
    rw [show (a.toNat : Int) * 16777216 = ((a.toNat * 16777216 : Nat) : Int) by omega, show (b.toNat : Int) * 65536 = ((b.toNat * 65536 : Nat) : Int) by omega]
    exact this
  have o2 : orI .i64 (z1 : Int) ((c.toNat : Int) * 256) = (z2 : Int) := by
    have := or_i64 z1 (c.toNat * 256) (by omega) (by omega)
    have e : z1 = (a.toNat * 256 + b.toNat) * 65536 := by rw [hz1]; exact z_two _ _
    have e2 := or_m (m := 65536) (k := 16) (d := a.toNat * 256 + b.toNat) (n := c.toNat * 256) (by simp) (by omega)
    rw [← e, ← hz2] at e2
    rw [e2] at this
    rw [show (c.toNat : Int) * 256 = ((c.toNat * 256 : Nat) : Int) by omega]
    exact this
  have o3 : orI .i64 (z2 : Int) (d.toNat : Int) = (z3 : Int) := by
    have := or_i64 z2 d.toNat (by omega) (by omega)
    have e : z2 = (a.toNat * 65536 + b.toNat * 256 + c.toNat) * 256 := by rw [hz2, hz1, z_two]; exact z_three _ _ _
    have e2 := or_m (m := 256) (k := 8) (d := a.toNat * 65536 + b.toNat * 256 + c.toNat) (n := d.toNat) (by simp) (by omega)
    rw [← e, ← hz3] at e2
    rw [e2] at this
    exact this
  have hz : fourN a b c d = z3 := by unfold fourN; omega
  rw [hz]
  clear hz hz3 hz2 hz1
  have sh1 : shiftBin .shl .i64 (a.toNat : Int) 24 = some (.int .i64 ((a.toNat : Int) * 16777216)) := by simp [IntKind.bits, s1]
  have sh2 : shiftBin .shl .i64 (b.toNat : Int) 16 = some (.int .i64 ((b.toNat : Int) * 65536)) := by simp [IntKind.bits, s2]
  have sh3 : shiftBin .shl .i64 (c.toNat : Int) 8 = some (.int .i64 ((c.toNat : Int) * 256)) := by simp [IntKind.bits, s3]
  clear s1 s2 s3
  obtain ⟨y1, hy1⟩ : ∃ y : Int, y = (a.toNat : Int) * 16777216 := ⟨_, rfl⟩
  obtain ⟨y2, hy2⟩ : ∃ y : Int, y = (b.toNat : Int) * 65536 := ⟨_, rfl⟩
  obtain ⟨y3, hy3⟩ : ∃ y : Int, y = (c.toNat : Int) * 256 := ⟨_, rfl⟩
  rw [← hy1] at sh1 o1
  rw [← hy2] at sh2 o1
  rw [← hy3] at sh3 o2
  clear hy1 hy2 hy3
  exact fourAt_run l n n1 n2 n3 a.toNat b.toNat c.toNat d.toNat i0 i1 i2 i3 (by rw [ha]) (by rw [hb]) (by rw [hc]) (by rw [hd]) w11 w12 w13 (v a) (v b) (v c) (v d) y1 y2 y3 z1 z2 z3 sh1 sh2 sh3 o1 o2 o3

theorem impl_fourAt.says (h : impl_fourAt.k M) (l : List UInt8) (n : Nat) (hn : n + 4 ≤ l.length) (hl : l.length ≤ 4611686018427387904) :
    run M 236 [.c (S l), .c (I n)] [] = some (.c (I (fourN l[n] l[n + 1] l[n + 2] l[n + 3])), []) :=
  impl_fourAt.says' h l n (n + 1) (n + 2) (n + 3) rfl rfl rfl (by omega) (by omega) (by omega) (by omega) hl

/-- the text ahead of its sum -/
def unsealed (l : List UInt8) : List UInt8 × Bool :=
  if 4 ≤ l.length ∧ l.length ≤ 20004 ∧ l.drop (l.length - 4) = four (sumOf (l.take (l.length - 4))) then (l.take (l.length - 4), true) else ([], false)
theorem spec_Unsealed.says (h : spec_Unsealed.k M) (l : List UInt8) (hl : l.length ≤ 4611686018427387904) : run M 167 [.c (S l)] [] = some (.tup [.c (S (unsealed l).1), .c (.bool (unsealed l).2)], []) := by
  have e1 : IntKind.i64.wrap ((l.length : Int) - 4) = (l.length : Int) - 4 := wrap_i64 (by omega) (by omega)
  refine run_code (b := spec_Unsealed.m) h.1 ⟨0, ?_⟩
  by_cases c1 : 4 ≤ l.length
  rotate_left
  · have d1 : (l.length : Int) - 4 < 0 := by omega
    simp [exB, spec_Unsealed.m, spec_Unsealed.b, List.range_succ, e1, d1, unsealed, c1]
  have d1 : ¬ (l.length : Int) - 4 < 0 := by omega
  by_cases c2 : l.length ≤ 20004
  rotate_left
  · have d2 : 20000 < (l.length : Int) - 4 := by omega
    simp [exB, spec_Unsealed.m, spec_Unsealed.b, List.range_succ, e1, d1, d2, unsealed, c1, c2]
  have d2 : ¬ 20000 < (l.length : Int) - 4 := by omega
  have h1 := spec_SumOf.says h.2.1 (l.take (l.length - 4)) (by simp; omega)
  have h2 := spec_l02Four.says h.2.2 (sumOf (l.take (l.length - 4)))
  have e2 : ((l.length : Int) - 4).toNat = l.length - 4 := by omega
  have e3 : (0 : Int) ≤ (l.length : Int) - 4 := by omega
  have e3' : (4 : Int) ≤ (l.length : Int) := by omega
  have e4 : l.length - 4 ≤ l.length := by omega
  by_cases c3 : l.drop (l.length - 4) = four (sumOf (l.take (l.length - 4)))
  · simp [exB, spec_Unsealed.m, spec_Unsealed.b, List.range_succ, e1, d1, d2, e2, e3, e3', e4, h1, h2, unsealed, c1, c2, c3]
  · simp [exB, spec_Unsealed.m, spec_Unsealed.b, List.range_succ, e1, d1, d2, e2, e3, e3', e4, h1, h2, unsealed, c1, c2, c3]
theorem drop_four (l : List UInt8) (n : Nat) (h : n + 4 = l.length) : l.drop n = [l[n], l[n + 1], l[n + 2], l[n + 3]] := by
  apply List.ext_getElem
  · simp; omega
  · intro i h1 h2
    simp at h2
    have : i = 0 ∨ i = 1 ∨ i = 2 ∨ i = 3 := by omega
    rcases this with rfl | rfl | rfl | rfl <;> simp
theorem impl_Unsealed.says (h : impl_Unsealed.k M) (l : List UInt8) (hl : l.length ≤ 4611686018427387904) : run M 168 [.c (S l)] [] = some (.tup [.c (S (unsealed l).1), .c (.bool (unsealed l).2)], []) := by
  obtain ⟨h0, k1, k2, k3⟩ := h
  have e1 : IntKind.i64.wrap ((l.length : Int) - 4) = (l.length : Int) - 4 := wrap_i64 (by omega) (by omega)
  have hw := impl_within.says k1 ((l.length : Int) - 4) 0 20000
  refine run_code (b := impl_Unsealed.m) h0 ⟨0, ?_⟩
  by_cases c : 4 ≤ l.length ∧ l.length ≤ 20004
  rotate_left
  · have hb : (decide ((0 : Int) ≤ (l.length : Int) - 4) && decide ((l.length : Int) - 4 ≤ 20000)) = false := by
      rw [Bool.eq_false_iff]; intro hh; simp only [Bool.and_eq_true, decide_eq_true_eq] at hh; omega
    rw [hb] at hw
    have : unsealed l = ([], false) := by unfold unsealed; rw [if_neg (fun q => c ⟨q.1, q.2.1⟩)]
    simp [exB, impl_Unsealed.m, impl_Unsealed.b, List.range_succ, e1, hw, this]
  obtain ⟨c1, c2⟩ := c
  have hb : (decide ((0 : Int) ≤ (l.length : Int) - 4) && decide ((l.length : Int) - 4 ≤ 20000)) = true := by
    simp only [Bool.and_eq_true, decide_eq_true_eq]; omega
  rw [hb] at hw
  have h1 := impl_SumOf.says k2 (l.take (l.length - 4)) (by simp; omega)
  have hin := sumOf_in (l.take (l.length - 4))
  have h2 := impl_fourAt.says k3 l (l.length - 4) (by omega) hl
  rw [show ((l.length - 4 : Nat) : Int) = (l.length : Int) - 4 by omega] at h2
  have hd := drop_four l (l.length - 4) (by omega)
  have hq := four_eq hin (l[l.length - 4]'(by omega)) (l[l.length - 4 + 1]'(by omega)) (l[l.length - 4 + 2]'(by omega)) (l[l.length - 4 + 3]'(by omega))
  rw [← hd] at hq
  have e2 : ((l.length : Int) - 4).toNat = l.length - 4 := by omega
  have e3 : (0 : Int) ≤ (l.length : Int) - 4 := by omega
  have e3' : (4 : Int) ≤ (l.length : Int) := by omega
  have e4 : l.length - 4 ≤ l.length := by omega
  have e5 : IntKind.i64.wrap (sumOf (l.take (l.length - 4))) = sumOf (l.take (l.length - 4)) := wrap_i64 (by have := hin.1; omega) (by have := hin.2; omega)
  unfold unsealed
  generalize fourN (l[l.length - 4]'(by omega)) (l[l.length - 4 + 1]'(by omega)) (l[l.length - 4 + 2]'(by omega)) (l[l.length - 4 + 3]'(by omega)) = z at h2 hq
  by_cases c3 : l.drop (l.length - 4) = four (sumOf (l.take (l.length - 4)))
  · have c4 := hq.1 c3.symm
    have e6 : IntKind.i64.wrap (z : Int) = z := by rw [c4] at e5; exact e5
    rw [if_pos ⟨c1, c2, c3⟩]
    simp [exB, impl_Unsealed.m, impl_Unsealed.b, List.range_succ, e1, hw, e2, e3, e3', e4, h1, h2, e5, c4, e6]
  · have c4 : ¬ sumOf (l.take (l.length - 4)) = z := fun q => c3 (hq.2 q).symm
    rw [if_neg (fun q => c3 q.2.2)]
    simp [exB, impl_Unsealed.m, impl_Unsealed.b, List.range_succ, e1, hw, e2, e3, e3', e4, h1, h2, e5, c4]
end Mx

/-
  Small codes: laws.eqIntS, laws.markIntS, laws.heldIntS, laws.szIntS, laws.toIntS.
-/
namespace Mx
open Go
def laws_eqIntS.l0 : C := .seq (.seq (.reg [⟨some 11, .mv (.t 5), none⟩,
    ⟨some 12, .mv (.t 0), none⟩,
    ⟨some 13, .len (.t 12), none⟩,
    ⟨some 14, .bin .lss (.t 11) (.t 13), none⟩] [0, 1, 5, 14] [])
  (.cond (.t 14) (.skip) (.exit 0)))
  (.seq (.block 1 (.seq (.regd [⟨some 17, .mv (.t 0), none⟩,
    ⟨some 18, .mv (.t 5), none⟩,
    ⟨some 19, .iaddr 1 (.t 17) (.t 18), none⟩,
    ⟨some 20, .load false 1 (.t 19), none⟩,
    ⟨some 21, .mv (.t 1), none⟩,
    ⟨some 22, .mv (.t 5), none⟩,
    ⟨some 23, .iaddr 1 (.t 21) (.t 22), none⟩,
    ⟨some 24, .load false 1 (.t 23), none⟩,
    ⟨some 25, .bin .neq (.t 20) (.t 24), none⟩] [[], [], [0, 1], [0, 1, 2], [], [], [4, 5], [4, 5, 6], [0, 1, 2, 3, 4, 5, 6, 7]] [0, 1, 5, 25] [])
  (.cond (.t 25) (.seq (.reg [⟨some 4, .mv (.k (.bool false)), none⟩] [4] [])
  (.ret)) (.skip))))
  (.reg [⟨some 15, .mv (.t 5), none⟩,
    ⟨some 16, .bin .add (.t 15) (.k (.int .i64 1)), none⟩,
    ⟨some 5, .mv (.t 16), none⟩] [0, 1, 5] []))
def laws_eqIntS.b : C := .seq (.reg [⟨some 4, .mv (.k (.bool false)), none⟩] [0, 1] [])
  (.seq (.seq (.reg [⟨some 6, .mv (.t 0), none⟩,
    ⟨some 7, .len (.t 6), none⟩,
    ⟨some 8, .mv (.t 1), none⟩,
    ⟨some 9, .len (.t 8), none⟩,
    ⟨some 10, .bin .neq (.t 7) (.t 9), none⟩] [0, 1, 10] [])
  (.cond (.t 10) (.seq (.reg [⟨some 4, .mv (.k (.bool false)), none⟩] [4] [])
  (.ret)) (.skip)))
  (.seq (.seq (.reg [⟨some 5, .mv (.k (.int .i64 0)), none⟩] [0, 1, 5] [])
  (.block 0 (.loop laws_eqIntS.l0)))
  (.seq (.reg [⟨some 4, .mv (.k (.bool true)), none⟩] [4] [])
  (.ret))))
def laws_eqIntS.m : Fn := { np := 2, body := laws_eqIntS.b, res := [.tmp 4] }
def laws_eqIntS.k (M : Nat → Option Body) : Prop := M 45 = some (.code laws_eqIntS.m)
def laws_markIntS.l0 : C := .seq (.seq (.reg [⟨some 6, .mv (.t 5), none⟩,
    ⟨some 7, .mv (.t 0), none⟩,
    ⟨some 8, .len (.t 7), none⟩,
    ⟨some 9, .bin .lss (.t 6) (.t 8), none⟩] [0, 1, 5, 9] [0])
  (.cond (.t 9) (.skip) (.exit 0)))
  (.seq (.block 1 (.seq (.reg [⟨some 12, .mv (.t 0), none⟩,
    ⟨some 13, .mv (.t 5), none⟩,
    ⟨some 14, .mv (.t 1), none⟩,
    ⟨some 15, .iaddr 1 (.t 12) (.t 13), none⟩,
    ⟨none, .store 1 (.t 15) (.t 14), none⟩] [0, 1, 5] [0])
  (.reg [⟨some 16, .mv (.t 1), none⟩,
    ⟨some 17, .bin .add (.t 16) (.k (.int .i64 1)), none⟩,
    ⟨some 1, .mv (.t 17), none⟩] [0, 1, 5] [0])))
  (.reg [⟨some 10, .mv (.t 5), none⟩,
    ⟨some 11, .bin .add (.t 10) (.k (.int .i64 1)), none⟩,
    ⟨some 5, .mv (.t 11), none⟩] [0, 1, 5] [0]))
def laws_markIntS.b : C := .seq (.reg [⟨some 4, .mv (.k (.int .i64 0)), none⟩] [0, 1] [0])
  (.seq (.seq (.reg [⟨some 5, .mv (.k (.int .i64 0)), none⟩] [0, 1, 5] [0])
  (.block 0 (.loop laws_markIntS.l0)))
  (.seq (.reg [⟨some 18, .mv (.t 1), none⟩,
    ⟨some 4, .mv (.t 18), none⟩] [4] [0])
  (.ret)))
def laws_markIntS.m : Fn := { np := 2, body := laws_markIntS.b, res := [.tmp 4] }
def laws_markIntS.k (M : Nat → Option Body) : Prop := M 46 = some (.code laws_markIntS.m)
def laws_heldIntS.l0 : C := .seq (.seq (.reg [⟨some 6, .mv (.t 5), none⟩,
    ⟨some 7, .mv (.t 0), none⟩,
    ⟨some 8, .len (.t 7), none⟩,
    ⟨some 9, .bin .lss (.t 6) (.t 8), none⟩] [0, 1, 5, 9] [])
  (.cond (.t 9) (.skip) (.exit 0)))
  (.seq (.block 1 (.seq (.seq (.reg [⟨some 12, .mv (.t 0), none⟩,
    ⟨some 13, .mv (.t 5), none⟩,
    ⟨some 14, .iaddr 1 (.t 12) (.t 13), none⟩,
    ⟨some 15, .load false 1 (.t 14), none⟩,
    ⟨some 16, .mv (.t 1), none⟩,
    ⟨some 17, .bin .neq (.t 15) (.t 16), none⟩] [0, 1, 5, 17] [])
  (.cond (.t 17) (.seq (.reg [⟨some 4, .mv (.k (.int .i64 (-1))), none⟩] [4] [])
  (.ret)) (.skip)))
  (.reg [⟨some 18, .mv (.t 1), none⟩,
    ⟨some 19, .bin .add (.t 18) (.k (.int .i64 1)), none⟩,
    ⟨some 1, .mv (.t 19), none⟩] [0, 1, 5] [])))
  (.reg [⟨some 10, .mv (.t 5), none⟩,
    ⟨some 11, .bin .add (.t 10) (.k (.int .i64 1)), none⟩,
    ⟨some 5, .mv (.t 11), none⟩] [0, 1, 5] []))
def laws_heldIntS.b : C := .seq (.reg [⟨some 4, .mv (.k (.int .i64 0)), none⟩] [0, 1] [])
  (.seq (.seq (.reg [⟨some 5, .mv (.k (.int .i64 0)), none⟩] [0, 1, 5] [])
  (.block 0 (.loop laws_heldIntS.l0)))
  (.seq (.reg [⟨some 20, .mv (.t 1), none⟩,
    ⟨some 4, .mv (.t 20), none⟩] [4] [])
  (.ret)))
def laws_heldIntS.m : Fn := { np := 2, body := laws_heldIntS.b, res := [.tmp 4] }
def laws_heldIntS.k (M : Nat → Option Body) : Prop := M 47 = some (.code laws_heldIntS.m)
def laws_szIntS.b : C := .seq (.reg [⟨some 4, .mv (.k (.int .i64 0)), none⟩] [0, 1] [])
  (.seq (.reg [⟨some 5, .mv (.t 1), none⟩,
    ⟨some 6, .mv (.t 0), none⟩,
    ⟨some 7, .len (.t 6), none⟩,
    ⟨some 8, .bin .sub (.t 5) (.t 7), none⟩,
    ⟨some 1, .mv (.t 8), none⟩] [1] [])
  (.seq (.seq (.reg [⟨some 9, .mv (.t 1), none⟩,
    ⟨some 10, .bin .lss (.t 9) (.k (.int .i64 0)), none⟩] [1, 10] [])
  (.cond (.t 10) (.seq (.reg [⟨some 4, .mv (.k (.int .i64 (-1))), none⟩] [4] [])
  (.ret)) (.skip)))
  (.seq (.reg [⟨some 11, .mv (.t 1), none⟩,
    ⟨some 4, .mv (.t 11), none⟩] [4] [])
  (.ret))))
def laws_szIntS.m : Fn := { np := 2, body := laws_szIntS.b, res := [.tmp 4] }
def laws_szIntS.k (M : Nat → Option Body) : Prop := M 108 = some (.code laws_szIntS.m)
def laws_toIntS.l0 : C := .seq (.seq (.reg [⟨some 8, .mv (.t 4), none⟩,
    ⟨some 9, .mv (.t 0), none⟩,
    ⟨some 10, .len (.t 9), none⟩,
    ⟨some 11, .bin .lss (.t 8) (.t 10), none⟩] [0, 3, 4, 11] [7])
  (.cond (.t 11) (.skip) (.exit 0)))
  (.seq (.block 1 (.reg [⟨some 14, .mv (.t 3), none⟩,
    ⟨some 15, .mv (.t 4), none⟩,
    ⟨some 16, .mv (.t 0), none⟩,
    ⟨some 17, .mv (.t 4), none⟩,
    ⟨some 18, .iaddr 1 (.t 16) (.t 17), none⟩,
    ⟨some 19, .load false 1 (.t 18), none⟩,
    ⟨some 20, .iaddr 1 (.t 14) (.t 15), none⟩,
    ⟨none, .store 1 (.t 20) (.t 19), none⟩] [0, 3, 4] [7]))
  (.reg [⟨some 12, .mv (.t 4), none⟩,
    ⟨some 13, .bin .add (.t 12) (.k (.int .i64 1)), none⟩,
    ⟨some 4, .mv (.t 13), none⟩] [0, 3, 4] [7]))
def laws_toIntS.b : C := .seq (.reg [⟨some 2, .nil 1, none⟩] [0] [])
  (.seq (.reg [⟨some 5, .mv (.t 0), none⟩,
    ⟨some 6, .len (.t 5), none⟩,
    ⟨some 7, .mks 1 8 [.int .i64 0] (.t 6), none⟩,
    ⟨some 3, .mv (.t 7), none⟩] [0, 3] [7])
  (.seq (.seq (.reg [⟨some 4, .mv (.k (.int .i64 0)), none⟩] [0, 3, 4] [7])
  (.block 0 (.loop laws_toIntS.l0)))
  (.seq (.reg [⟨some 21, .mv (.t 3), none⟩,
    ⟨some 2, .mv (.t 21), none⟩] [2] [2, 7])
  (.ret))))
def laws_toIntS.m : Fn := { np := 1, body := laws_toIntS.b, res := [.tmp 2] }
def laws_toIntS.k (M : Nat → Option Body) : Prop := M 42 = some (.code laws_toIntS.m)
end Mx

/-
  The laws' plumbing at any type: slices laid over and held against each other, element by element.
-/
namespace Mx
open Go
variable {M : Nat → Option Body}

/-- a cell that all may read -/
def closedT : T → Bool
  | .int .. => true
  | .bool _ => true
  | .str _ => true
  | .sl own _ _ => !own
  | _ => false
/-- as the caller sees it -/
def frz : T → T
  | .sl _ sz rows => .sl false sz rows
  | t => t
def resT : T → Bool
  | .int .. => true
  | .bool _ => true
  | .str _ => true
  | .sl .. => true
  | _ => false
theorem im_closed {o : List (Nat × Ob)} {t : T} (h : closedT t = true) : im o t = some t ∧ wr3 o t = [] ∧ cl o t = some t := by
  cases t <;> simp [closedT] at h <;> simp [im, im1, im0, wr3, wr2, wr, cl, h]
theorem im_closedL {o : List (Nat × Ob)} {r : List T} (h : r.all closedT = true) : mapO (im o) r = some r ∧ r.flatMap (wr3 o) = [] ∧ mapO (cl o) r = some r := by
  induction r with
  | nil => exact ⟨rfl, rfl, rfl⟩
  | cons t r ih =>
    simp only [List.all_cons, Bool.and_eq_true] at h
    obtain ⟨h1, h2, h3⟩ := ih h.2
    obtain ⟨k1, k2, k3⟩ := im_closed (o := o) h.1
    simp only [mapO, h1, h3, k1, k3, k2, h2, List.flatMap_cons, List.append_nil, and_self]
theorem back_frz {n : Nat} {l : List (Nat × Nat × Nat)} {r : List T} (h : r.all resT = true) (q : Nat) : backL n l [] q r = some (r.map frz, []) := by
  induction r generalizing q with
  | nil => rfl
  | cons t r ih =>
    simp only [List.all_cons, Bool.and_eq_true] at h
    have h1 := ih h.2 (q + 1)
    cases t <;> simp [resT] at h <;> simp [backL, backT, get, h1, frz]
theorem frz_closed {t : T} (h : resT t = true) : closedT (frz t) = true := by
  cases t <;> simp [resT] at h <;> simp [frz, closedT]

/-- a call with one row, back with one row -/
theorem call_row {n : Nat} {o : List (Nat × Ob)} {f : Nat} {r r' : List T} (hr : r.all closedT = true) (hr' : r'.all resT = true) (h : run M f [.a r] [] = some (.a r', [])) :
    doCall (run M) n o f [.a r] [] [] = some (.a (r'.map frz), []) := by
  obtain ⟨h1, h2, _⟩ := im_closedL (o := o) hr
  simp [doCall, args, lendsC, V.im, V.wr, h1, h2, h, lentBack, back, backV, back_frz hr']
theorem call_rows2 {n : Nat} {o : List (Nat × Ob)} {f : Nat} {r s : List T} {b : Bool} (hr : r.all closedT = true) (hs : s.all closedT = true) (h : run M f [.a r, .a s] [] = some (.c (.bool b), [])) :
    doCall (run M) n o f [.a r, .a s] [] [] = some (.c (.bool b), []) := by
  obtain ⟨h1, h2, _⟩ := im_closedL (o := o) hr
  obtain ⟨k1, k2, _⟩ := im_closedL (o := o) hs
  simp [doCall, args, lendsC, V.im, V.wr, h1, h2, k1, k2, h, lentBack, back, backV, backT]

theorem set_row {α : Type} (a : List α) (x : α) (b : List α) (n : Nat) (h : a.length = n) (y : α) : (a ++ x :: b).set n y = a ++ y :: b := by
  subst h; simp
theorem get_row {α : Type} (a : List α) (x : α) (b : List α) (n : Nat) (h : a.length = n) : (a ++ x :: b)[n]? = some x := by
  subst h; simp

/-! ## out := make([]X, len(a)); out[i] = toX(a[i]) -/
theorem keep_any (ks : List Nat) : keep ks ([] : List (Nat × Ob)) = [] := by
  induction ks with
  | nil => rfl
  | cons k ks ih => simp [keep_cons, get, ih]
def toSl (n f : Nat) : C := .seq (.seq (.reg [⟨some 8, .mv (.t 4), none⟩,
    ⟨some 9, .mv (.t 0), none⟩,
    ⟨some 10, .len (.t 9), none⟩,
    ⟨some 11, .bin .lss (.t 8) (.t 10), none⟩] [0, 3, 4, 11] [7])
  (.cond (.t 11) (.skip) (.exit 0)))
  (.seq (.block 1 (.reg [⟨some 14, .mv (.t 3), none⟩,
    ⟨some 15, .mv (.t 4), none⟩,
    ⟨some 16, .mv (.t 0), none⟩,
    ⟨some 17, .mv (.t 4), none⟩,
    ⟨some 18, .iaddr n (.t 16) (.t 17), none⟩,
    ⟨some 19, .load true n (.t 18), none⟩,
    ⟨some 20, .call f [.t 19] [] [], none⟩,
    ⟨some 21, .iaddr n (.t 14) (.t 15), none⟩,
    ⟨none, .store n (.t 21) (.t 20), none⟩] [0, 3, 4] [7]))
  (.reg [⟨some 12, .mv (.t 4), none⟩,
    ⟨some 13, .bin .add (.t 12) (.k (.int .i64 1)), none⟩,
    ⟨some 4, .mv (.t 13), none⟩] [0, 3, 4] [7]))
def toSb (n by' : Nat) (z : List T) (f : Nat) : C := .seq (.reg [⟨some 2, .nil n, none⟩] [0] [])
  (.seq (.reg [⟨some 5, .mv (.t 0), none⟩,
    ⟨some 6, .len (.t 5), none⟩,
    ⟨some 7, .mks n by' z (.t 6), none⟩,
    ⟨some 3, .mv (.t 7), none⟩] [0, 3] [7])
  (.seq (.seq (.reg [⟨some 4, .mv (.k (.int .i64 0)), none⟩] [0, 3, 4] [7])
  (.block 0 (.loop (toSl n f))))
  (.seq (.reg [⟨some 22, .mv (.t 3), none⟩,
    ⟨some 2, .mv (.t 22), none⟩] [2] [2, 7])
  (.ret))))
def toSm (n by' : Nat) (z : List T) (f : Nat) : Fn := { np := 1, body := toSb n by' z f, res := [.tmp 2] }
def toSst (n : Nat) (z : List T) (rows : List (List T)) (i : Nat) (x : Nat × Nat) : St :=
  { t := [(0, .c (.sl false n rows)), (3, .c (.row 7 x.1 0 rows.length)), (4, .c (I i))], o := [(7, ⟨x.1, n, true, false, rows.take i ++ List.replicate (rows.length - i) z⟩)], n := x.2 }
theorem toS_says {F n by' : Nat} {z : List T} {f : Nat} (h : M F = some (.code (toSm n by' z f))) (hz : z.length = n) {rows : List (List T)} (hl : rows.length ≤ 1048576) (hby : by' ≤ 4096) 
    (he : ∀ r ∈ rows, r.length = n ∧ r.all closedT = true ∧ ∃ r', run M f [.a r] [] = some (.a r', []) ∧ r'.all resT = true ∧ r'.map frz = r) :
    run M F [.c (.sl false n rows)] [] = some (.c (.sl true n rows), []) := by
  refine run_code (b := toSm n by' z f) h ⟨rows.length + 1, ?_⟩
  obtain ⟨g, hr⟩ := loop_all (f := exC (run M) (rows.length + 1) (toSl n f)) (toSst n z rows) (fun i => i ≤ rows.length) (fun i => rows.length - i) (fun _ => ())
    (fun _ (m : Nat × Nat) => (.exit 0, { t := [(0, .c (.sl false n rows)), (3, .c (.row 7 m.1 0 rows.length)), (4, .c (I rows.length)), (11, .c (.bool false))], o := [(7, ⟨m.1, n, true, false, rows⟩)], n := m.2 }))
    (by
      rintro i ⟨v, x⟩ hi
      by_cases hlt : i < rows.length
      · have e5 : IntKind.i64.wrap ((i : Int) + 1) = (i : Int) + 1 := wrap_i64 (by omega) (by omega)
        obtain ⟨k1, k2, r', k3, k4, k5⟩ := he rows[i] (List.getElem_mem hlt)
        have hc := fun nn => call_row (n := nn) (o := [(7, (⟨v, n, true, false, rows.take i ++ List.replicate (rows.length - i) z⟩ : Ob))]) k2 k4 k3
        rw [k5] at hc
        have hti : (rows.take i).length = i := by simp; omega
        have hrep : List.replicate (rows.length - i) z = z :: List.replicate (rows.length - (i + 1)) z := by
          rw [show rows.length - i = (rows.length - (i + 1)) + 1 by omega, List.replicate_succ]
        have h3 : (rows.take i ++ List.replicate (rows.length - i) z)[i]? = some z := by
          rw [hrep]; exact get_row _ _ _ _ hti
        have h3' : ∀ h, (rows.take i ++ List.replicate (rows.length - i) z)[i]'h = z := fun h => by rw [List.getElem?_eq_getElem h] at h3; exact Option.some.inj h3
        have h4 : (rows.take i ++ List.replicate (rows.length - i) z).set i rows[i] = rows.take (i + 1) ++ List.replicate (rows.length - (i + 1)) z := by
          rw [hrep, set_row _ _ _ _ hti, List.take_succ_eq_append_getElem hlt, List.append_assoc]; rfl
        have h5 : i < (rows.take i ++ List.replicate (rows.length - i) z).length := by simp; omega
        have h6 : (List.take n rows[i]) = rows[i] := List.take_of_length_le (by omega)
        have h7 : setAt z 0 rows[i] = rows[i] := by
          simp only [setAt, List.take_zero, List.nil_append, Nat.zero_add]
          rw [List.drop_eq_nil_of_le (by omega), List.append_nil]
        have h8 := (im_closedL (o := [(7, (⟨v, n, true, false, rows.take i ++ List.replicate (rows.length - i) z⟩ : Ob))]) k2).2.2
        have h9 : n ≤ z.length := by omega
        obtain ⟨y, hy⟩ : ∃ y, exC (run M) (rows.length + 1) (toSl n f) (toSst n z rows i (v, x)) = some (.normal, toSst n z rows (i + 1) y) := by
          simp only [Prod.exists]
          simp [toSst, toSl, hlt, e5, k1, hc, h3, h3', h4, h5, h6, h7, h8, h9, -doCall, -setAt]
        exact .inl ⟨i + 1, y, hy, hlt, by omega, rfl⟩
      · have : i = rows.length := by omega
        subst this
        exact .inr ⟨(v, x + 64), by simp [toSst, toSl], by simp⟩)
    (rows.length + 1) 0 (Nat.zero_le _) (by omega)
  have c1 : rows.length ≤ 4294967296 := by omega
  have c2 : by' * rows.length ≤ 140737488355328 := Nat.le_trans (Nat.mul_le_mul hby hl) (by decide)
  simp [toSst] at hr
  simp [exB, toSm, toSb, List.range_succ, hr, c1, c2, List.take_of_length_le]

/-! ## the same, with elements of one cell -/
def toS1l : C := .seq (.seq (.reg [⟨some 8, .mv (.t 4), none⟩,
    ⟨some 9, .mv (.t 0), none⟩,
    ⟨some 10, .len (.t 9), none⟩,
    ⟨some 11, .bin .lss (.t 8) (.t 10), none⟩] [0, 3, 4, 11] [7])
  (.cond (.t 11) (.skip) (.exit 0)))
  (.seq (.block 1 (.reg [⟨some 14, .mv (.t 3), none⟩,
    ⟨some 15, .mv (.t 4), none⟩,
    ⟨some 16, .mv (.t 0), none⟩,
    ⟨some 17, .mv (.t 4), none⟩,
    ⟨some 18, .iaddr 1 (.t 16) (.t 17), none⟩,
    ⟨some 19, .load false 1 (.t 18), none⟩,
    ⟨some 20, .iaddr 1 (.t 14) (.t 15), none⟩,
    ⟨none, .store 1 (.t 20) (.t 19), none⟩] [0, 3, 4] [7]))
  (.reg [⟨some 12, .mv (.t 4), none⟩,
    ⟨some 13, .bin .add (.t 12) (.k (.int .i64 1)), none⟩,
    ⟨some 4, .mv (.t 13), none⟩] [0, 3, 4] [7]))
def toS1b (by' : Nat) (z : T) : C := .seq (.reg [⟨some 2, .nil 1, none⟩] [0] [])
  (.seq (.reg [⟨some 5, .mv (.t 0), none⟩,
    ⟨some 6, .len (.t 5), none⟩,
    ⟨some 7, .mks 1 by' [z] (.t 6), none⟩,
    ⟨some 3, .mv (.t 7), none⟩] [0, 3] [7])
  (.seq (.seq (.reg [⟨some 4, .mv (.k (.int .i64 0)), none⟩] [0, 3, 4] [7])
  (.block 0 (.loop toS1l)))
  (.seq (.reg [⟨some 21, .mv (.t 3), none⟩,
    ⟨some 2, .mv (.t 21), none⟩] [2] [2, 7])
  (.ret))))
def toS1m (by' : Nat) (z : T) : Fn := { np := 1, body := toS1b by' z, res := [.tmp 2] }
theorem toS1_says {F by' : Nat} {z : T} (h : M F = some (.code (toS1m by' z))) {l : List T} (hl : l.length ≤ 1048576) (hby : by' ≤ 4096) (he : ∀ t ∈ l, closedT t = true) :
    run M F [.c (.sl false 1 (l.map fun t => [t]))] [] = some (.c (.sl true 1 (l.map fun t => [t])), []) := by
  refine run_code (b := toS1m by' z) h ⟨l.length + 1, ?_⟩
  obtain ⟨rows, hrows⟩ : ∃ rows, rows = l.map fun t => [t] := ⟨_, rfl⟩
  have hlen : rows.length = l.length := by rw [hrows]; simp
  rw [← hrows]
  obtain ⟨g, hr⟩ := loop_all (f := exC (run M) (l.length + 1) toS1l) (toSst 1 [z] rows) (fun i => i ≤ rows.length) (fun i => rows.length - i) (fun _ => ())
    (fun _ (m : Nat × Nat) => (.exit 0, { t := [(0, .c (.sl false 1 rows)), (3, .c (.row 7 m.1 0 rows.length)), (4, .c (I rows.length)), (11, .c (.bool false))], o := [(7, ⟨m.1, 1, true, false, rows⟩)], n := m.2 }))
    (by
      rintro i ⟨v, x⟩ hi
      by_cases hlt : i < rows.length
      · have e5 : IntKind.i64.wrap ((i : Int) + 1) = (i : Int) + 1 := wrap_i64 (by omega) (by omega)
        have hlt' : i < l.length := by omega
        have k0 : rows[i] = [l[i]] := by simp [hrows]
        have h8 := (im_closed (o := [(7, (⟨v, 1, true, false, rows.take i ++ List.replicate (rows.length - i) [z]⟩ : Ob))]) (he l[i] (List.getElem_mem hlt'))).2.2
        have hti : (rows.take i).length = i := by simp; omega
        have hrep : List.replicate (rows.length - i) [z] = [z] :: List.replicate (rows.length - (i + 1)) [z] := by
          rw [show rows.length - i = (rows.length - (i + 1)) + 1 by omega, List.replicate_succ]
        have h3 : (rows.take i ++ List.replicate (rows.length - i) [z])[i]? = some [z] := by
          rw [hrep]; exact get_row _ _ _ _ hti
        have h3' : ∀ h, (rows.take i ++ List.replicate (rows.length - i) [z])[i]'h = [z] := fun h => by rw [List.getElem?_eq_getElem h] at h3; exact Option.some.inj h3
        have h4 : (rows.take i ++ List.replicate (rows.length - i) [z]).set i [l[i]] = rows.take (i + 1) ++ List.replicate (rows.length - (i + 1)) [z] := by
          rw [hrep, set_row _ _ _ _ hti, List.take_succ_eq_append_getElem hlt, List.append_assoc, k0]; rfl
        have h5 : i < (rows.take i ++ List.replicate (rows.length - i) [z]).length := by simp; omega
        obtain ⟨y, hy⟩ : ∃ y, exC (run M) (l.length + 1) toS1l (toSst 1 [z] rows i (v, x)) = some (.normal, toSst 1 [z] rows (i + 1) y) := by
          simp only [Prod.exists]
          simp [toSst, toS1l, hlt, e5, k0, h3, h3', h4, h5, h8, setAt, -cl]
        exact .inl ⟨i + 1, y, hy, hlt, by omega, rfl⟩
      · have : i = rows.length := by omega
        subst this
        exact .inr ⟨(v, x + 64), by simp [toSst, toS1l], by simp⟩)
    (l.length + 1) 0 (Nat.zero_le _) (by omega)
  have c1 : rows.length ≤ 4294967296 := by omega
  have c2 : by' * rows.length ≤ 140737488355328 := Nat.le_trans (Nat.mul_le_mul hby (by omega : rows.length ≤ 1048576)) (by decide)
  simp [toSst] at hr
  simp [exB, toS1m, toS1b, List.range_succ, hr, c1, c2, List.take_of_length_le]

/-! ## one by one the same -/
def eqSl (n f : Nat) : C := .seq (.seq (.reg [⟨some 11, .mv (.t 5), none⟩,
    ⟨some 12, .mv (.t 0), none⟩,
    ⟨some 13, .len (.t 12), none⟩,
    ⟨some 14, .bin .lss (.t 11) (.t 13), none⟩] [0, 1, 5, 14] [])
  (.cond (.t 14) (.skip) (.exit 0)))
  (.seq (.block 1 (.seq (.regd [⟨some 17, .mv (.t 0), none⟩,
    ⟨some 18, .mv (.t 5), none⟩,
    ⟨some 19, .iaddr n (.t 17) (.t 18), none⟩,
    ⟨some 20, .load true n (.t 19), none⟩,
    ⟨some 21, .mv (.t 1), none⟩,
    ⟨some 22, .mv (.t 5), none⟩,
    ⟨some 23, .iaddr n (.t 21) (.t 22), none⟩,
    ⟨some 24, .load true n (.t 23), none⟩,
    ⟨some 25, .call f [.t 20, .t 24] [] [], none⟩,
    ⟨some 26, .not (.t 25), none⟩] [[], [], [0, 1], [0, 1, 2], [], [], [4, 5], [4, 5, 6], [0, 1, 2, 3, 4, 5, 6, 7], [0, 1, 2, 3, 4, 5, 6, 7, 8]] [0, 1, 5, 26] [])
  (.cond (.t 26) (.seq (.reg [⟨some 4, .mv (.k (.bool false)), none⟩] [4] [])
  (.ret)) (.skip))))
  (.reg [⟨some 15, .mv (.t 5), none⟩,
    ⟨some 16, .bin .add (.t 15) (.k (.int .i64 1)), none⟩,
    ⟨some 5, .mv (.t 16), none⟩] [0, 1, 5] []))
def eqSb (n f : Nat) : C := .seq (.reg [⟨some 4, .mv (.k (.bool false)), none⟩] [0, 1] [])
  (.seq (.seq (.reg [⟨some 6, .mv (.t 0), none⟩,
    ⟨some 7, .len (.t 6), none⟩,
    ⟨some 8, .mv (.t 1), none⟩,
    ⟨some 9, .len (.t 8), none⟩,
    ⟨some 10, .bin .neq (.t 7) (.t 9), none⟩] [0, 1, 10] [])
  (.cond (.t 10) (.seq (.reg [⟨some 4, .mv (.k (.bool false)), none⟩] [4] [])
  (.ret)) (.skip)))
  (.seq (.seq (.reg [⟨some 5, .mv (.k (.int .i64 0)), none⟩] [0, 1, 5] [])
  (.block 0 (.loop (eqSl n f))))
  (.seq (.reg [⟨some 4, .mv (.k (.bool true)), none⟩] [4] [])
  (.ret))))
def eqSm (n f : Nat) : Fn := { np := 2, body := eqSb n f, res := [.tmp 4] }
def eqSst (n : Nat) (rows : List (List T)) (i : Nat) (x : Nat) : St := { t := [(0, .c (.sl false n rows)), (1, .c (.sl false n rows)), (5, .c (I i))], o := [], n := x }
theorem eqS_says {F n f : Nat} (h : M F = some (.code (eqSm n f))) {rows : List (List T)} (hl : rows.length ≤ 4611686018427387904)
    (he : ∀ r ∈ rows, r.length = n ∧ r.all closedT = true ∧ run M f [.a r, .a r] [] = some (.c (.bool true), [])) :
    run M F [.c (.sl false n rows), .c (.sl false n rows)] [] = some (.c (.bool true), []) := by
  refine run_code (b := eqSm n f) h ⟨rows.length + 1, ?_⟩
  obtain ⟨g, hr⟩ := loop_all (f := exC (run M) (rows.length + 1) (eqSl n f)) (eqSst n rows) (fun i => i ≤ rows.length) (fun i => rows.length - i) (fun _ => ())
    (fun _ m => (.exit 0, { t := [(0, .c (.sl false n rows)), (1, .c (.sl false n rows)), (5, .c (I rows.length)), (14, .c (.bool false))], o := [], n := m }))
    (by
      intro i x hi
      by_cases hlt : i < rows.length
      · have e5 : IntKind.i64.wrap ((i : Int) + 1) = (i : Int) + 1 := wrap_i64 (by omega) (by omega)
        obtain ⟨k1, k2, k3⟩ := he rows[i] (List.getElem_mem hlt)
        have hc := fun nn => call_rows2 (n := nn) (o := []) k2 k2 k3
        have h6 : (List.take n rows[i]) = rows[i] := List.take_of_length_le (by omega)
        obtain ⟨y, hy⟩ : ∃ y, exC (run M) (rows.length + 1) (eqSl n f) (eqSst n rows i x) = some (.normal, eqSst n rows (i + 1) y) := by
          simp [eqSst, eqSl, hlt, e5, k1, hc, h6, keep_any, -doCall]
        exact .inl ⟨i + 1, y, hy, hlt, by omega, rfl⟩
      · have : i = rows.length := by omega
        subst this
        exact .inr ⟨x + 64, by simp [eqSst, eqSl], by simp⟩)
    (rows.length + 1) 0 (Nat.zero_le _) (by omega)
  simp [eqSst] at hr
  simp [exB, eqSm, eqSb, List.range_succ, hr]
end Mx

/-
  Numbers: what is laid over, held against, weighed, marked.
-/
namespace Mx
open Go
variable {M : Nat → Option Body}
def irow (l : List Int) : List (List T) := l.map fun n => [I n]
abbrev ints (l : List Int) : T := .sl false 1 (irow l)
theorem irow_len (l : List Int) : (irow l).length = l.length := by simp [irow]
theorem irow_at (l : List Int) (i : Nat) (h : i < (irow l).length) : (irow l)[i] = [I (l[i]'(by simpa [irow] using h))] := by simp [irow]
theorem irow_append (a b : List Int) : irow a ++ irow b = irow (a ++ b) := by simp [irow]
theorem irow_nil : irow [] = [] := rfl
theorem irow_take (l : List Int) (n : Nat) : (irow l).take n = irow (l.take n) := by simp [irow]
attribute [simp] irow_len irow_at irow_append irow_nil irow_take
/-- k, k+1, .. -/
def upto (k : Int) : Nat → List Int
  | 0 => []
  | n + 1 => upto k n ++ [k + n]
theorem upto_len (k : Int) (n : Nat) : (upto k n).length = n := by
  induction n with
  | zero => rfl
  | succ n ih => simp [upto, ih]
attribute [simp] upto_len
theorem upto_at (k : Int) (n i : Nat) (h : i < n) (h' : i < (upto k n).length) : (upto k n)[i] = k + i := by
  induction n with
  | zero => omega
  | succ n ih =>
    simp only [upto]
    by_cases e : i < n
    · rw [List.getElem_append_left (by simpa using e)]; exact ih e _
    · have : i = n := by omega
      subst this
      rw [List.getElem_append_right (by simp)]; simp

def eqI (l : List Int) (i : Nat) (x : Nat) : St := { t := [(0, .c (ints l)), (1, .c (ints l)), (5, .c (I i))], o := [], n := x }
theorem laws_eqIntS.says (h : laws_eqIntS.k M) (l : List Int) (hl : l.length ≤ 4611686018427387904) : run M 45 [.c (ints l), .c (ints l)] [] = some (.c (.bool true), []) := by
  refine run_code (b := laws_eqIntS.m) h ⟨l.length + 1, ?_⟩
  obtain ⟨g, hr⟩ := loop_all (f := exC (run M) (l.length + 1) laws_eqIntS.l0) (eqI l) (fun i => i ≤ l.length) (fun i => l.length - i) (fun _ => ())
    (fun _ m => (.exit 0, { t := [(0, .c (ints l)), (1, .c (ints l)), (5, .c (I l.length)), (14, .c (.bool false))], o := [], n := m }))
    (by
      intro i x hi
      by_cases hlt : i < l.length
      · have e5 : IntKind.i64.wrap ((i : Int) + 1) = (i : Int) + 1 := wrap_i64 (by omega) (by omega)
        obtain ⟨y, hy⟩ : ∃ y, exC (run M) (l.length + 1) laws_eqIntS.l0 (eqI l i x) = some (.normal, eqI l (i + 1) y) := by simp [eqI, laws_eqIntS.l0, hlt, e5]
        exact .inl ⟨i + 1, y, hy, hlt, by omega, rfl⟩
      · have : i = l.length := by omega
        subst this
        exact .inr ⟨x + 64, by simp [eqI, laws_eqIntS.l0], by simp⟩)
    (l.length + 1) 0 (Nat.zero_le _) (by omega)
  simp [eqI] at hr
  simp [exB, laws_eqIntS.m, laws_eqIntS.b, List.range_succ, hr]

theorem set_mid {α : Type} (a : List α) (x : α) (b : List α) (n : Nat) (h : a.length = n) (y : α) : (a ++ x :: b).set n y = a ++ y :: b := by
  subst h; simp
theorem at_mid {α : Type} (a : List α) (x : α) (b : List α) (n : Nat) (h : a.length = n) : (a ++ x :: b)[n]? = some x := by
  subst h; simp
def mkI (k : Int) (l : List Int) (i : Nat) (x : Nat) : St := { t := [(0, .c (.row 0 0 0 l.length)), (1, .c (I (k + i))), (5, .c (I i))], o := [(0, ⟨0, 1, true, false, irow (upto k i ++ l.drop i)⟩)], n := x }
theorem laws_markIntS.says (h : laws_markIntS.k M) (l : List Int) (k : Int) (hk : -9223372036854775808 ≤ k) (hl : k + l.length ≤ 9223372036854775807) (hl2 : l.length ≤ 4611686018427387904) :
    run M 46 [.c (.row 0 0 0 l.length), .c (I k)] [(0, ⟨0, 1, true, false, irow l⟩)] = some (.c (I (k + l.length)), [(0, ⟨0, 1, true, false, irow (upto k l.length)⟩)]) := by
  refine run_code (b := laws_markIntS.m) h ⟨l.length + 1, ?_⟩
  obtain ⟨g, hr⟩ := loop_all (f := exC (run M) (l.length + 1) laws_markIntS.l0) (mkI k l) (fun i => i ≤ l.length) (fun i => l.length - i) (fun _ => ())
    (fun _ m => (.exit 0, { t := [(0, .c (.row 0 0 0 l.length)), (1, .c (I (k + l.length))), (5, .c (I l.length)), (9, .c (.bool false))], o := [(0, ⟨0, 1, true, false, irow (upto k l.length)⟩)], n := m }))
    (by
      intro i x hi
      by_cases hlt : i < l.length
      · have e5 : IntKind.i64.wrap ((i : Int) + 1) = (i : Int) + 1 := wrap_i64 (by omega) (by omega)
        have e6 : IntKind.i64.wrap (k + (i : Int) + 1) = k + (i : Int) + 1 := wrap_i64 (by omega) (by omega)
        have e7 : k + ((i : Int) + 1) = k + (i : Int) + 1 := by omega
        have e8 : i + (l.length - i) = l.length := by omega
        have hd := List.drop_eq_getElem_cons hlt
        have h3 : (irow (upto k i ++ l.drop i))[i]? = some [I l[i]] := by
          rw [hd]; simp only [irow, List.map_append, List.map_cons]; exact at_mid _ _ _ _ (by simp)
        have h3' : ∀ h, (irow (upto k i ++ l.drop i))[i]'h = [I l[i]] := fun h => by rw [List.getElem?_eq_getElem h] at h3; exact Option.some.inj h3
        have h4 : (irow (upto k i ++ l.drop i)).set i [I (k + i)] = irow (upto k (i + 1) ++ l.drop (i + 1)) := by
          rw [hd]; simp only [irow, List.map_append, List.map_cons, upto, List.append_assoc, List.cons_append, List.nil_append, List.map_nil]; exact set_mid _ _ _ _ (by simp) _
        obtain ⟨y, hy⟩ : ∃ y, exC (run M) (l.length + 1) laws_markIntS.l0 (mkI k l i x) = some (.normal, mkI k l (i + 1) y) := by
          simp [mkI, laws_markIntS.l0, hlt, e5, e6, e7, e8, h3', h4, setAt, -irow_at]
        exact .inl ⟨i + 1, y, hy, hlt, by omega, rfl⟩
      · have : i = l.length := by omega
        subst this
        exact .inr ⟨x + 64, by simp [mkI, laws_markIntS.l0], by simp⟩)
    (l.length + 1) 0 (Nat.zero_le _) (by omega)
  simp [mkI, upto] at hr
  simp [exB, laws_markIntS.m, laws_markIntS.b, List.range_succ, hr]

def heI (k : Int) (n : Nat) (i : Nat) (x : Nat) : St := { t := [(0, .c (ints (upto k n))), (1, .c (I (k + i))), (5, .c (I i))], o := [], n := x }
theorem laws_heldIntS.says (h : laws_heldIntS.k M) (n : Nat) (k : Int) (hk : -9223372036854775808 ≤ k) (hl : k + n ≤ 9223372036854775807) (hl2 : n ≤ 4611686018427387904) :
    run M 47 [.c (ints (upto k n)), .c (I k)] [] = some (.c (I (k + n)), []) := by
  refine run_code (b := laws_heldIntS.m) h ⟨n + 1, ?_⟩
  obtain ⟨g, hr⟩ := loop_all (f := exC (run M) (n + 1) laws_heldIntS.l0) (heI k n) (fun i => i ≤ n) (fun i => n - i) (fun _ => ())
    (fun _ m => (.exit 0, { t := [(0, .c (ints (upto k n))), (1, .c (I (k + n))), (5, .c (I n)), (9, .c (.bool false))], o := [], n := m }))
    (by
      intro i x hi
      by_cases hlt : i < n
      · have e5 : IntKind.i64.wrap ((i : Int) + 1) = (i : Int) + 1 := wrap_i64 (by omega) (by omega)
        have e6 : IntKind.i64.wrap (k + (i : Int) + 1) = k + (i : Int) + 1 := wrap_i64 (by omega) (by omega)
        have e7 : k + ((i : Int) + 1) = k + (i : Int) + 1 := by omega
        have e8 := upto_at k n i hlt (by simpa using hlt)
        obtain ⟨y, hy⟩ : ∃ y, exC (run M) (n + 1) laws_heldIntS.l0 (heI k n i x) = some (.normal, heI k n (i + 1) y) := by
          simp [heI, laws_heldIntS.l0, hlt, e5, e6, e7, e8]
        exact .inl ⟨i + 1, y, hy, hlt, by omega, rfl⟩
      · have : i = n := by omega
        subst this
        exact .inr ⟨x + 64, by simp [heI, laws_heldIntS.l0], by simp⟩)
    (n + 1) 0 (Nat.zero_le _) (by omega)
  simp [heI] at hr
  simp [exB, laws_heldIntS.m, laws_heldIntS.b, List.range_succ, hr]
theorem irow_flat (l : List Int) : (irow l).all (fun r => r.all T.scalar) = true := by
  simp only [irow, List.all_map, List.all_eq_true]
  intro n _; rfl
attribute [simp] irow_flat

theorem laws_toIntS.says (h : laws_toIntS.k M) (l : List Int) (hl : l.length ≤ 1048576) : run M 42 [.c (ints l)] [] = some (.c (.sl true 1 (irow l)), []) := by
  have := toS1_says (M := M) (F := 42) (by' := 8) (z := .int .i64 0) h (l := l.map I) (by simpa using hl) (by omega) (fun t ht => by obtain ⟨n, _, rfl⟩ := List.mem_map.1 ht; rfl)
  rw [List.map_map] at this
  exact this
theorem laws_szIntS.says (h : laws_szIntS.k M) (l : List Int) (hl : l.length ≤ 9223372036854775807) (n : Int) (hn : 0 ≤ n) (hn' : n ≤ 9223372036854775807) : run M 108 [.c (ints l), .c (I n)] [] = some (.c (I (if n < l.length then -1 else n - l.length)), []) := by
  refine run_code (b := laws_szIntS.m) h ⟨0, ?_⟩
  have e5 : IntKind.i64.wrap (n - (l.length : Int)) = n - (l.length : Int) := wrap_i64 (by omega) (by omega)
  by_cases hc : n < l.length
  · have h1 : n - (l.length : Int) < 0 := by omega
    simp [exB, laws_szIntS.m, laws_szIntS.b, List.range_succ, e5, h1, hc]
  · have h1 : ¬ n - (l.length : Int) < 0 := by omega
    simp [exB, laws_szIntS.m, laws_szIntS.b, List.range_succ, e5, h1, hc]
end Mx

/-
  Records: what is read at a place, and all of them.
-/
namespace Mx
open Go
variable {M : Nat → Option Body}
theorem rvGo_text (l : List UInt8) (a : Nat) : ∀ d k n r, rvGo l a d k n = some r → r.2.2 = true → a < r.2.1 ∧ r.2.1 ≤ l.length ∧ varT r.1 = (l.drop a).take (r.2.1 - a)
  | 0, k, n, r, h => by simp [rvGo] at h
  | d + 1, k, n, r, hr => by
    intro hq
    rw [rvGo] at hr
    by_cases h : a + k < l.length
    · rw [dif_pos h] at hr
      split at hr
      · simp only [Option.some.injEq] at hr
        subst hr
        split at hq
        · rename_i hc
          rw [if_pos hc]
          refine ⟨by simp only; omega, by simp only; omega, ?_⟩
          simp only
          rw [hc.2]; congr 1; omega
        · cases hq
      · exact rvGo_text l a d (k + 1) _ r hr hq
    · rw [dif_neg h] at hr; cases hr
theorem readShort_ok (l : List UInt8) (a : Int) (h : (readShort l a).2.2 = true) : ∃ m : Nat, a = m ∧ m < (readShort l a).2.1 ∧ (readShort l a).2.1 ≤ l.length ∧ (l.take (readShort l a).2.1).drop m = shortT (readShort l a).1 ∧ (readShort l a).1.length ≤ 20000 := by
  unfold readShort at h ⊢
  split at h
  · rename_i hc
    rw [if_pos hc]
    obtain ⟨c1, c2, c3⟩ := hc
    simp only
    unfold readVar at c1 c2 c3 ⊢
    split at c1
    · rename_i hr
      rw [if_pos hr] at c2 c3 ⊢
      obtain ⟨m, rfl⟩ := Int.eq_ofNat_of_zero_le hr.1
      simp only [Int.toNat_natCast] at c1 c2 c3 ⊢
      cases hg : rvGo l m 5 0 0 with
      | none => rw [hg] at c1; cases c1
      | some r =>
        rw [hg] at c1 c2 c3 
        simp only [Option.getD_some] at c1 c2 c3 ⊢
        obtain ⟨q1, q2, q3⟩ := rvGo_text l m 5 0 0 r hg c1
        refine ⟨m, rfl, by omega, by omega, ?_, by simp; omega⟩
        have hlen : ((l.drop r.2.1).take r.1).length = r.1 := by simp; omega
        unfold shortT
        rw [hlen, q3, List.drop_take]
        have e1 : r.2.1 + r.1 - m = (r.2.1 - m) + r.1 := by omega
        rw [e1, List.take_add, List.drop_drop]
        congr 3; omega
    · cases c1
  · cases h

/-- the text of the record at a place, and the place behind it -/
def recAt (l : List UInt8) (a : Int) : List UInt8 × Nat × Bool :=
  if (readShort l a).2.2 = true ∧ (1 ≤ (readShort l a).1.length ∧ (readShort l a).1.length ≤ 6000) ∧ (readShort l a).2.1 + 4 ≤ l.length ∧ (l.drop (readShort l a).2.1).take 4 = four (sumOf (shortT (readShort l a).1)) then ((readShort l a).1, (readShort l a).2.1 + 4, true) else ([], 0, false)
theorem take_four (l : List UInt8) (m e : Nat) (h : m ≤ e) (he : e ≤ l.length) : (l.take (e + 4)).drop m = (l.take e).drop m ++ (l.drop e).take 4 := by
  rw [List.take_add, List.drop_append_of_le_length (by simp; omega)]
theorem spec_l12Read.says (h : spec_l12Read.k M) (l : List UInt8) (hl : l.length ≤ 1048576) (a : Int) :
    run M 104 [.c (S l), .c (I a)] [] = some (.tup [.c (S (recAt l a).1), .c (I (recAt l a).2.1), .c (.bool (recAt l a).2.2)], []) := by
  have h1 := spec_ReadShort.says h.2.2 l (by omega) a
  have hok := readShort_ok l a
  refine run_code (b := spec_l12Read.m) h.1 ⟨0, ?_⟩
  unfold recAt
  generalize (readShort l a).1 = t at *
  generalize (readShort l a).2.1 = e at *
  generalize (readShort l a).2.2 = ok at *
  cases ok with
  | false => simp [exB, spec_l12Read.m, spec_l12Read.b, List.range_succ, h1]
  | true =>
    obtain ⟨m, rfl, p1, p2, p3, p4⟩ := hok rfl
    have h2 := spec_RecordText.says h.2.1 t (by omega)
    have e1 : IntKind.i64.wrap ((l.length : Int) - 4) = (l.length : Int) - 4 := wrap_i64 (by omega) (by omega)
    by_cases c1 : e + 4 ≤ l.length
    rotate_left
    · have c1' : (l.length : Int) - 4 < e := by omega
      simp [exB, spec_l12Read.m, spec_l12Read.b, List.range_succ, h1, e1, c1, c1']
    have c1' : ¬ (l.length : Int) - 4 < e := by omega
    by_cases c2 : 1 ≤ t.length ∧ t.length ≤ 6000
    rotate_left
    · have hr : recordText t = ([], false) := by unfold recordText; rw [if_neg c2]
      rw [hr] at h2
      simp [exB, spec_l12Read.m, spec_l12Read.b, List.range_succ, h1, e1, c1, c1', c2, h2]
    have hv := varT_len (n := t.length) (by omega)
    have hr : recordText t = (shortT t ++ four (sumOf (shortT t)), true) := by
      unfold recordText sealed
      rw [if_pos c2, if_neg (by simp [shortT]; omega)]
    rw [hr] at h2
    have e2 : IntKind.i64.wrap ((e : Int) + 4) = (e : Int) + 4 := wrap_i64 (by omega) (by omega)
    have e3 : ((e : Int) + 4).toNat = e + 4 := by omega
    have e4 : (0 : Int) ≤ (e : Int) + 4 := by omega
    have e5 : m ≤ e + 4 := by omega
    have hx := take_four l m e (by omega) p2
    rw [p3] at hx
    have hx' : List.take (e + 4 - m) (List.drop m l) = shortT t ++ (l.drop e).take 4 := by rw [← hx, List.drop_take]
    have e6 : IntKind.i64.wrap ((e : Int) + 4) = ((e + 4 : Nat) : Int) := by rw [e2]; omega
    generalize (l.drop e).take 4 = w at *
    generalize four (sumOf (shortT t)) = f at *
    generalize shortT t = s at *
    by_cases c3 : w = f
    · subst c3
      simp [exB, spec_l12Read.m, spec_l12Read.b, List.range_succ, h1, e1, c1, c1', c2, h2, e2, e3, e4, e5, hx, hx']
    · have c4 : ¬ f = w := fun q => c3 q.symm
      simp [exB, spec_l12Read.m, spec_l12Read.b, List.range_succ, h1, e1, c1, c1', c2, h2, e2, e3, e4, e5, hx, hx', c3, c4]
theorem impl_recordAt.says (h : impl_recordAt.k M) (l : List UInt8) (hl : l.length ≤ 1048576) (a : Int) :
    run M 105 [.c (S l), .c (I a)] [] = some (.tup [.c (S (recAt l a).1), .c (I (recAt l a).2.1), .c (.bool (recAt l a).2.2)], []) := by
  obtain ⟨h0, k1, k2, k3⟩ := h
  have h1 := impl_ReadShort.says k3 l (by omega) a
  have hok := readShort_ok l a
  refine run_code (b := impl_recordAt.m) h0 ⟨0, ?_⟩
  unfold recAt
  generalize (readShort l a).1 = t at *
  generalize (readShort l a).2.1 = e at *
  generalize (readShort l a).2.2 = ok at *
  cases ok with
  | false => simp [exB, impl_recordAt.m, impl_recordAt.b, List.range_succ, h1]
  | true =>
    obtain ⟨m, rfl, p1, p2, p3, p4⟩ := hok rfl
    have hw := impl_within.says k1 t.length 1 6000
    by_cases c2 : 1 ≤ t.length ∧ t.length ≤ 6000
    rotate_left
    · have hb : (decide ((1 : Int) ≤ t.length) && decide ((t.length : Int) ≤ 6000)) = false := by
        rw [Bool.eq_false_iff]; intro hh; simp only [Bool.and_eq_true, decide_eq_true_eq] at hh; omega
      rw [hb] at hw
      simp [exB, impl_recordAt.m, impl_recordAt.b, List.range_succ, h1, hw, c2]
    have hb : (decide ((1 : Int) ≤ t.length) && decide ((t.length : Int) ≤ 6000)) = true := by
      simp only [Bool.and_eq_true, decide_eq_true_eq]; omega
    rw [hb] at hw
    have e1 : IntKind.i64.wrap ((l.length : Int) - e) = (l.length : Int) - e := wrap_i64 (by omega) (by omega)
    by_cases c1 : e + 4 ≤ l.length
    rotate_left
    · have c1' : (l.length : Int) - e < 4 := by omega
      simp [exB, impl_recordAt.m, impl_recordAt.b, List.range_succ, h1, hw, c2, e1, c1, c1']
    have c1' : ¬ (l.length : Int) - e < 4 := by omega
    have hv := varT_len (n := t.length) (by omega)
    have hsl : (shortT t).length ≤ 6010 := by simp [shortT]; omega
    have e2 : IntKind.i64.wrap ((e : Int) + 4) = (e : Int) + 4 := wrap_i64 (by omega) (by omega)
    have e3 : ((e : Int) + 4).toNat = e + 4 := by omega
    have e4 : (0 : Int) ≤ (e : Int) + 4 := by omega
    have e5 : m ≤ e + 4 := by omega
    have hx := take_four l m e (by omega) p2
    rw [p3] at hx
    have hx' : List.take (e + 4 - m) (List.drop m l) = shortT t ++ (l.drop e).take 4 := by rw [← hx, List.drop_take]
    have hw4 : ((l.drop e).take 4).length = 4 := by simp; omega
    have h2 := impl_Unsealed.says k2 (shortT t ++ (l.drop e).take 4) (by simp; omega)
    have hu : (unsealed (shortT t ++ (l.drop e).take 4)).2 = decide ((l.drop e).take 4 = four (sumOf (shortT t))) := by
      have q1 : (shortT t ++ (l.drop e).take 4).length - 4 = (shortT t).length := by rw [List.length_append, hw4]; omega
      unfold unsealed
      rw [q1, List.take_left' rfl, List.drop_left' rfl]
      by_cases c : (l.drop e).take 4 = four (sumOf (shortT t))
      · rw [if_pos ⟨by rw [List.length_append, hw4]; omega, by rw [List.length_append, hw4]; omega, c⟩]; simp [c]
      · rw [if_neg (fun q => c q.2.2)]; simp [c]
    rw [hu] at h2
    generalize (unsealed (shortT t ++ (l.drop e).take 4)).1 = u at h2
    clear hu hw4
    generalize (l.drop e).take 4 = w at *
    generalize four (sumOf (shortT t)) = f at *
    generalize shortT t = s at *
    by_cases c3 : w = f
    · subst c3
      simp at h2
      simp [exB, impl_recordAt.m, impl_recordAt.b, List.range_succ, h1, hw, e1, c1, c1', c2, h2, e2, e3, e4, e5, hx, hx']
    · simp [c3] at h2
      simp [exB, impl_recordAt.m, impl_recordAt.b, List.range_succ, h1, hw, e1, c1, c1', c2, h2, e2, e3, e4, e5, hx, hx', c3]
end Mx

/-
  Small codes: spec.l01Figure, spec.Decimal, impl.Decimal.
-/
namespace Mx
open Go
def spec_l01Figure.b : C := .seq (.reg [⟨some 2, .mv (.k (.int .u8 0)), none⟩] [0] [])
  (.seq (.seq (.reg [⟨some 3, .mv (.t 0), none⟩,
    ⟨some 4, .bin .lss (.t 3) (.k (.int .i64 10)), none⟩] [0, 4] [])
  (.cond (.t 4) (.seq (.reg [⟨some 5, .mv (.t 0), none⟩,
    ⟨some 6, .bin .add (.k (.int .i64 48)) (.t 5), none⟩,
    ⟨some 7, .i2i .u8 (.t 6), none⟩,
    ⟨some 2, .mv (.t 7), none⟩] [2] [])
  (.ret)) (.skip)))
  (.seq (.reg [⟨some 8, .mv (.t 0), none⟩,
    ⟨some 9, .bin .add (.k (.int .i64 97)) (.t 8), none⟩,
    ⟨some 10, .bin .sub (.t 9) (.k (.int .i64 10)), none⟩,
    ⟨some 11, .i2i .u8 (.t 10), none⟩,
    ⟨some 2, .mv (.t 11), none⟩] [2] [])
  (.ret)))
def spec_l01Figure.m : Fn := { np := 1, body := spec_l01Figure.b, res := [.tmp 2] }
def spec_l01Figure.k (M : Nat → Option Body) : Prop := M 247 = some (.code spec_l01Figure.m)
def spec_Decimal.l0 : C := .seq (.seq (.reg [⟨some 10, .mv (.t 0), none⟩,
    ⟨some 11, .bin .neq (.t 10) (.k (.int .i64 0)), none⟩] [0, 3, 4, 11] [])
  (.cond (.t 11) (.skip) (.exit 0)))
  (.block 1 (.seq (.reg [⟨some 12, .mv (.t 0), none⟩,
    ⟨some 13, .bin .rem (.t 12) (.k (.int .i64 10)), none⟩,
    ⟨some 5, .mv (.t 13), none⟩] [0, 3, 4, 5] [])
  (.seq (.seq (.reg [⟨some 14, .mv (.t 5), none⟩,
    ⟨some 15, .bin .lss (.t 14) (.k (.int .i64 0)), none⟩] [0, 3, 4, 5, 15] [])
  (.cond (.t 15) (.reg [⟨some 16, .mv (.t 5), none⟩,
    ⟨some 17, .neg (.t 16), none⟩,
    ⟨some 5, .mv (.t 17), none⟩] [0, 3, 4, 5] []) (.skip)))
  (.seq (.reg [⟨some 18, .mv (.t 5), none⟩,
    ⟨some 19, .call 247 [.t 18] [] [], none⟩,
    ⟨some 20, .bslice 1 1 [.int .u8 0] [(0, .t 19)], none⟩,
    ⟨some 21, .b2s (.t 20), none⟩,
    ⟨some 22, .mv (.t 4), none⟩,
    ⟨some 23, .bin .add (.t 21) (.t 22), none⟩,
    ⟨some 4, .mv (.t 23), none⟩] [0, 3, 4] [])
  (.reg [⟨some 24, .mv (.t 0), none⟩,
    ⟨some 25, .bin .quo (.t 24) (.k (.int .i64 10)), none⟩,
    ⟨some 0, .mv (.t 25), none⟩] [0, 3, 4] [])))))
def spec_Decimal.b : C := .seq (.reg [⟨some 2, .mv (.k (.str ⟨#[]⟩)), none⟩] [0] [])
  (.seq (.seq (.reg [⟨some 6, .mv (.t 0), none⟩,
    ⟨some 7, .bin .eql (.t 6) (.k (.int .i64 0)), none⟩] [0, 7] [])
  (.cond (.t 7) (.seq (.reg [⟨some 2, .mv (.k (.str ⟨#[48]⟩)), none⟩] [2] [])
  (.ret)) (.skip)))
  (.seq (.reg [⟨some 8, .mv (.t 0), none⟩,
    ⟨some 9, .bin .lss (.t 8) (.k (.int .i64 0)), none⟩,
    ⟨some 3, .mv (.t 9), none⟩] [0, 3] [])
  (.seq (.reg [⟨some 4, .mv (.k (.str ⟨#[]⟩)), none⟩] [0, 3, 4] [])
  (.seq (.block 0 (.loop spec_Decimal.l0))
  (.seq (.seq (.reg [⟨some 26, .mv (.t 3), none⟩] [4, 26] [])
  (.cond (.t 26) (.seq (.reg [⟨some 27, .mv (.t 4), none⟩,
    ⟨some 28, .bin .add (.k (.str ⟨#[45]⟩)) (.t 27), none⟩,
    ⟨some 2, .mv (.t 28), none⟩] [2] [])
  (.ret)) (.skip)))
  (.seq (.reg [⟨some 29, .mv (.t 4), none⟩,
    ⟨some 2, .mv (.t 29), none⟩] [2] [])
  (.ret)))))))
def spec_Decimal.m : Fn := { np := 1, body := spec_Decimal.b, res := [.tmp 2] }
def spec_Decimal.k (M : Nat → Option Body) : Prop := M 197 = some (.code spec_Decimal.m) ∧ spec_l01Figure.k M
def impl_Decimal.l0 : C := .seq (.seq (.reg [⟨some 9, .mv (.t 4), none⟩,
    ⟨some 10, .bin .neq (.t 9) (.k (.int .i64 0)), none⟩] [0, 3, 4, 10] [])
  (.cond (.t 10) (.skip) (.exit 0)))
  (.seq (.block 1 (.seq (.reg [⟨some 13, .mv (.t 4), none⟩,
    ⟨some 14, .bin .rem (.t 13) (.k (.int .i64 10)), none⟩,
    ⟨some 5, .mv (.t 14), none⟩] [0, 3, 4, 5] [])
  (.seq (.reg [⟨some 15, .mv (.t 5), none⟩,
    ⟨some 16, .mv (.t 5), none⟩,
    ⟨some 17, .neg (.t 16), none⟩,
    ⟨some 18, .max (.t 15) (.t 17), none⟩,
    ⟨some 5, .mv (.t 18), none⟩] [0, 3, 4, 5] [])
  (.reg [⟨some 19, .mv (.t 5), none⟩,
    ⟨some 20, .mv (.t 5), none⟩,
    ⟨some 21, .bin .add (.t 20) (.k (.int .i64 1)), none⟩,
    ⟨some 22, .sstr (.k (.str ⟨#[48, 49, 50, 51, 52, 53, 54, 55, 56, 57, 97, 98, 99, 100, 101, 102]⟩)) (some (.t 19)) (some (.t 21)), none⟩,
    ⟨some 23, .mv (.t 3), none⟩,
    ⟨some 24, .bin .add (.t 22) (.t 23), none⟩,
    ⟨some 3, .mv (.t 24), none⟩] [0, 3, 4] []))))
  (.reg [⟨some 11, .mv (.t 4), none⟩,
    ⟨some 12, .bin .quo (.t 11) (.k (.int .i64 10)), none⟩,
    ⟨some 4, .mv (.t 12), none⟩] [0, 3, 4] []))
def impl_Decimal.b : C := .seq (.reg [⟨some 2, .mv (.k (.str ⟨#[]⟩)), none⟩] [0] [])
  (.seq (.seq (.reg [⟨some 6, .mv (.t 0), none⟩,
    ⟨some 7, .bin .eql (.t 6) (.k (.int .i64 0)), none⟩] [0, 7] [])
  (.cond (.t 7) (.seq (.reg [⟨some 2, .mv (.k (.str ⟨#[48]⟩)), none⟩] [2] [])
  (.ret)) (.skip)))
  (.seq (.reg [⟨some 3, .mv (.k (.str ⟨#[]⟩)), none⟩] [0, 3] [])
  (.seq (.seq (.reg [⟨some 8, .mv (.t 0), none⟩,
    ⟨some 4, .mv (.t 8), none⟩] [0, 3, 4] [])
  (.block 0 (.loop impl_Decimal.l0)))
  (.seq (.seq (.reg [⟨some 25, .mv (.t 0), none⟩,
    ⟨some 26, .bin .lss (.t 25) (.k (.int .i64 0)), none⟩] [3, 26] [])
  (.cond (.t 26) (.reg [⟨some 27, .mv (.t 3), none⟩,
    ⟨some 28, .bin .add (.k (.str ⟨#[45]⟩)) (.t 27), none⟩,
    ⟨some 3, .mv (.t 28), none⟩] [3] []) (.skip)))
  (.seq (.reg [⟨some 29, .mv (.t 3), none⟩,
    ⟨some 2, .mv (.t 29), none⟩] [2] [])
  (.ret))))))
def impl_Decimal.m : Fn := { np := 1, body := impl_Decimal.b, res := [.tmp 2] }
def impl_Decimal.k (M : Nat → Option Body) : Prop := M 128 = some (.code impl_Decimal.m)
end Mx

/-
  What the two Decimal answer.
-/
namespace Mx
open Go
variable {M : Nat → Option Body}
def fig (d : Nat) : UInt8 := UInt8.ofNat (48 + d)
def digs (m : Nat) (acc : List UInt8) : List UInt8 := if m = 0 then acc else digs (m / 10) (fig (m % 10) :: acc)
termination_by m
decreasing_by omega
theorem digs_zero (acc : List UInt8) : digs 0 acc = acc := by rw [digs]; simp
theorem digs_step {m : Nat} (h : m ≠ 0) (acc : List UInt8) : digs m acc = digs (m / 10) (fig (m % 10) :: acc) := by rw [digs, if_neg h]
def dec (n : Int) : List UInt8 := if n = 0 then [48] else (if n < 0 then [45] else []) ++ digs n.natAbs []
theorem digs_len : ∀ (k m : Nat) (acc : List UInt8), m < 10 ^ k → (digs m acc).length ≤ acc.length + k := by
  intro k
  induction k with
  | zero => intro m acc h; have : m = 0 := by simpa using h
            subst this; rw [digs_zero]; omega
  | succ k ih =>
    intro m acc h
    by_cases h0 : m = 0
    · subst h0; rw [digs_zero]; omega
    · rw [digs_step h0]
      have := ih (m / 10) (fig (m % 10) :: acc) (by rw [Nat.pow_succ] at h; omega)
      simp at this; omega
theorem dec_len {n : Int} (h : -9223372036854775808 ≤ n) (h' : n ≤ 9223372036854775807) : (dec n).length ≤ 21 := by
  unfold dec
  have := digs_len 20 n.natAbs [] (by omega)
  simp at this
  split
  · simp
  · split <;> simp <;> omega

theorem spec_l01Figure.says (h : spec_l01Figure.k M) (d : Nat) (hd : d < 10) : run M 247 [.c (I d)] [] = some (.c (U8 (fig d).toNat), []) := by
  refine run_code (b := spec_l01Figure.m) h ⟨0, ?_⟩
  have e0 : (d : Int) < 10 := by omega
  have e1 : IntKind.i64.wrap (48 + (d : Int)) = 48 + (d : Int) := wrap_i64 (by omega) (by omega)
  have e2 : IntKind.u8.wrap (48 + (d : Int)) = ((fig d).toNat : Int) := by
    unfold IntKind.wrap; simp [IntKind.bits, IntKind.signed, fig] <;> omega
  simp [exB, spec_l01Figure.m, spec_l01Figure.b, List.range_succ, e0, e1, e2]

def spDec (b : Bool) (s : Int × List UInt8) (x : Nat) : St := { t := [(0, .c (I s.1)), (3, .c (.bool b)), (4, .c (S s.2))], o := [], n := x }
def decInv (s : Int × List UInt8) : Prop := -9223372036854775808 ≤ s.1 ∧ s.1 ≤ 9223372036854775807 ∧ ∃ k, s.1.natAbs < 10 ^ k ∧ s.2.length + k ≤ 20
theorem decInv_step {n : Int} {acc : List UInt8} (h : decInv (n, acc)) (h0 : n ≠ 0) (b : UInt8) : decInv (n.tdiv 10, b :: acc) := by
  obtain ⟨h1, h2, k, h3, h4⟩ := h
  simp only at h1 h2 h3 h4
  have e : (n.tdiv 10).natAbs = n.natAbs / 10 := by rw [Int.natAbs_tdiv]; rfl
  cases k with
  | zero => simp at h3; omega
  | succ k => exact ⟨by simp only; omega, by simp only; omega, k, by simp only; rw [e]; rw [Nat.pow_succ] at h3; omega, by simp; omega⟩
theorem tmod_ten (n : Int) : n.tmod 10 = (n.natAbs % 10 : Nat) ∨ (n.tmod 10 < 0 ∧ n.tmod 10 = - (n.natAbs % 10 : Nat)) := by
  have e : (n.tmod 10).natAbs = n.natAbs % 10 := by rw [Int.natAbs_tmod]; rfl
  omega
theorem spec_Decimal.round (h : spec_Decimal.k M) (k : Nat) (b : Bool) (s : Int × List UInt8) (x : Nat) (hi : decInv s) (h0 : s.1 ≠ 0) :
    ∃ y, exC (run M) k spec_Decimal.l0 (spDec b s x) = some (.normal, spDec b (s.1.tdiv 10, fig (s.1.natAbs % 10) :: s.2) y) := by
  obtain ⟨n, acc⟩ := s
  obtain ⟨h1, h2, k', h3, h4⟩ := hi
  simp only at h0 h1 h2 h3 h4
  have hf := spec_l01Figure.says h.2 (n.natAbs % 10) (by omega)
  have ed : (n.tdiv 10).natAbs = n.natAbs / 10 := by rw [Int.natAbs_tdiv]; rfl
  have e1 : IntKind.i64.wrap (n.tdiv 10) = n.tdiv 10 := wrap_i64 (by omega) (by omega)
  have e2 : acc.length + 1 ≤ 4611686018427387904 := by omega
  have e3 : 1 + acc.length ≤ 4611686018427387904 := by omega
  rcases tmod_ten n with ht | ⟨ht0, ht⟩
  · have e0 : ¬ (((n.natAbs % 10 : Nat) : Int) < 0) := by omega
    generalize n.natAbs % 10 = d at *
    simp only [spDec, spec_Decimal.l0]
    simp (disch := (first | omega | (simp; done) | (simp; omega))) [h0, ht, hf, e1, e0, str_add, rowsBytes]
  · have e0 : n.tmod 10 < 0 := ht0
    have e4 : IntKind.i64.wrap (0 - n.tmod 10) = ((n.natAbs % 10 : Nat) : Int) := by rw [wrap_i64 (by omega) (by omega)]; omega
    generalize n.natAbs % 10 = d at *
    simp only [spDec, spec_Decimal.l0]
    simp only [Int.zero_sub] at e4
    simp (disch := (first | omega | (simp; done) | (simp; omega))) [h0, e0, e4, hf, e1, str_add, rowsBytes]

theorem spec_Decimal.says (h : spec_Decimal.k M) (n : Int) (hn : -9223372036854775808 ≤ n) (hn' : n ≤ 9223372036854775807) : run M 197 [.c (I n)] [] = some (.c (S (dec n)), []) := by
  refine run_code (b := spec_Decimal.m) h.1 ⟨n.natAbs + 1, ?_⟩
  by_cases h0 : n = 0
  · simp [exB, spec_Decimal.m, spec_Decimal.b, List.range_succ, h0, dec]
  obtain ⟨g, hr⟩ := loop_all (f := exC (run M) (n.natAbs + 1) spec_Decimal.l0) (spDec (decide (n < 0))) decInv (fun s => s.1.natAbs) (fun s => digs s.1.natAbs s.2)
    (fun q m => (.exit 0, { t := [(0, .c (I 0)), (3, .c (.bool (decide (n < 0)))), (4, .c (S q)), (11, .c (.bool false))], o := [], n := m }))
    (by
      intro s x hi
      by_cases hs : s.1 = 0
      · right
        exact ⟨x + 32, by simp [spDec, spec_Decimal.l0, hs, digs_zero], by simp⟩
      · left
        obtain ⟨y, hy⟩ := spec_Decimal.round h (n.natAbs + 1) (decide (n < 0)) s x hi hs
        have e : (s.1.tdiv 10).natAbs = s.1.natAbs / 10 := by rw [Int.natAbs_tdiv]; rfl
        refine ⟨_, y, hy, decInv_step hi hs _, by simp only; omega, ?_⟩
        simp only [e]
        exact (digs_step (by omega) _).symm)
    (n.natAbs + 1) (n, []) ⟨hn, hn', 20, by simp only; omega, by simp⟩ (by simp only; omega)
  have hl := digs_len 20 n.natAbs [] (by omega)
  simp [spDec] at hr hl
  by_cases hneg : n < 0
  · simp [hneg] at hr
    simp (disch := (first | omega | (simp; done) | (simp; omega))) [exB, spec_Decimal.m, spec_Decimal.b, List.range_succ, h0, dec, hneg, hr, str_add]
  · simp [hneg] at hr
    simp (disch := (first | omega | (simp; done) | (simp; omega))) [exB, spec_Decimal.m, spec_Decimal.b, List.range_succ, h0, dec, hneg, hr, str_add]

def imDec (n : Int) (s : Int × List UInt8) (x : Nat) : St := { t := [(0, .c (I n)), (3, .c (S s.2)), (4, .c (I s.1))], o := [], n := x }
theorem fig_of : ∀ d : Nat, d < 10 → ∃ h : d < 16, ([48, 49, 50, 51, 52, 53, 54, 55, 56, 57, 97, 98, 99, 100, 101, 102] : List UInt8)[d] = fig d := by decide
theorem impl_Decimal.round (k : Nat) (n0 : Int) (s : Int × List UInt8) (x : Nat) (hi : decInv s) (h0 : s.1 ≠ 0) :
    ∃ y, exC (run M) k impl_Decimal.l0 (imDec n0 s x) = some (.normal, imDec n0 (s.1.tdiv 10, fig (s.1.natAbs % 10) :: s.2) y) := by
  obtain ⟨n, acc⟩ := s
  obtain ⟨h1, h2, k', h3, h4⟩ := hi
  simp only at h0 h1 h2 h3 h4
  have ed : (n.tdiv 10).natAbs = n.natAbs / 10 := by rw [Int.natAbs_tdiv]; rfl
  have e1 : IntKind.i64.wrap (n.tdiv 10) = n.tdiv 10 := wrap_i64 (by omega) (by omega)
  have e2 : acc.length + 1 ≤ 4611686018427387904 := by omega
  have e3 : 1 + acc.length ≤ 4611686018427387904 := by omega
  have hd : n.natAbs % 10 < 10 := by omega
  have e5 : IntKind.i64.wrap (((n.natAbs % 10 : Nat) : Int) + 1) = ((n.natAbs % 10 + 1 : Nat) : Int) := wrap_i64 (by omega) (by omega)
  have e4 : IntKind.i64.wrap (-(n.tmod 10)) = -(n.tmod 10) := wrap_i64 (by have := tmod_ten n; omega) (by have := tmod_ten n; omega)
  have e6 : (if n.tmod 10 < -(n.tmod 10) then -(n.tmod 10) else n.tmod 10) = ((n.natAbs % 10 : Nat) : Int) := by
    rcases tmod_ten n with ht | ⟨ht0, ht⟩ <;> split <;> omega
  generalize n.natAbs % 10 = d at *
  obtain ⟨hd16, hfig⟩ := fig_of d hd
  have e7 := take_drop1 ([48, 49, 50, 51, 52, 53, 54, 55, 56, 57, 97, 98, 99, 100, 101, 102] : List UInt8) d hd16
  rw [hfig] at e7
  simp only [List.take_succ_cons] at e7
  have e8 : d + 1 ≤ 16 := by omega
  have e9 : (0 : Int) ≤ (d : Int) + 1 := by omega
  have e10 : ((d : Int) + 1).toNat = d + 1 := by omega
  simp only [imDec, impl_Decimal.l0]
  simp (disch := (first | omega | (simp; done) | (simp; omega))) [h0, e4, e5, e6, e7, e8, e9, e10, e1, str_add]

theorem impl_Decimal.says (h : impl_Decimal.k M) (n : Int) (hn : -9223372036854775808 ≤ n) (hn' : n ≤ 9223372036854775807) : run M 128 [.c (I n)] [] = some (.c (S (dec n)), []) := by
  refine run_code (b := impl_Decimal.m) h ⟨n.natAbs + 1, ?_⟩
  by_cases h0 : n = 0
  · simp [exB, impl_Decimal.m, impl_Decimal.b, List.range_succ, h0, dec]
  obtain ⟨g, hr⟩ := loop_all (f := exC (run M) (n.natAbs + 1) impl_Decimal.l0) (imDec n) decInv (fun s => s.1.natAbs) (fun s => digs s.1.natAbs s.2)
    (fun q m => (.exit 0, { t := [(0, .c (I n)), (3, .c (S q)), (4, .c (I 0)), (10, .c (.bool false))], o := [], n := m }))
    (by
      intro s x hi
      by_cases hs : s.1 = 0
      · right
        exact ⟨x + 32, by simp [imDec, impl_Decimal.l0, hs, digs_zero], by simp⟩
      · left
        obtain ⟨y, hy⟩ := impl_Decimal.round (n.natAbs + 1) n s x hi hs
        have e : (s.1.tdiv 10).natAbs = s.1.natAbs / 10 := by rw [Int.natAbs_tdiv]; rfl
        refine ⟨_, y, hy, decInv_step hi hs _, by simp only; omega, ?_⟩
        simp only [e]
        exact (digs_step (by omega) _).symm)
    (n.natAbs + 1) (n, []) ⟨hn, hn', 20, by simp only; omega, by simp⟩ (by simp only; omega)
  have hl := digs_len 20 n.natAbs [] (by omega)
  simp [imDec] at hr hl
  by_cases hneg : n < 0
  · simp (disch := (first | omega | (simp; done) | (simp; omega))) [exB, impl_Decimal.m, impl_Decimal.b, List.range_succ, h0, dec, hneg, hr, str_add]
  · simp (disch := (first | omega | (simp; done) | (simp; omega))) [exB, impl_Decimal.m, impl_Decimal.b, List.range_succ, h0, dec, hneg, hr, str_add]
end Mx

/-
  What the two ReadRecords answer, and their law.
-/
namespace Mx
open Go
variable {M : Nat → Option Body}
def srow (l : List (List UInt8)) : List (List T) := l.map fun s => [S s]
abbrev strs (l : List (List UInt8)) : T := .sl false 1 (srow l)
theorem srow_len (l : List (List UInt8)) : (srow l).length = l.length := by simp [srow]
theorem srow_at (l : List (List UInt8)) (i : Nat) (h : i < (srow l).length) : (srow l)[i] = [S (l[i]'(by simpa [srow] using h))] := by simp [srow]
theorem srow_append (a b : List (List UInt8)) : srow a ++ srow b = srow (a ++ b) := by simp [srow]
theorem srow_nil : srow [] = [] := rfl
theorem srow_take (l : List (List UInt8)) (n : Nat) : (srow l).take n = srow (l.take n) := by simp [srow]
theorem srow_snoc (l : List (List UInt8)) (s : List UInt8) : srow l ++ [[S s]] = srow (l ++ [s]) := by simp [srow]
theorem srow_flat (l : List (List UInt8)) : (srow l).all (fun r => r.all T.scalar) = true := by
  simp only [srow, List.all_map, List.all_eq_true]
  intro n _; rfl
attribute [simp] srow_len srow_at srow_append srow_nil srow_take srow_flat

/-- the records from a place on -/
def recsGo (l : List UInt8) : Nat → Nat → List (List UInt8) → List (List UInt8) × Nat
  | 0, a, acc => (acc, a)
  | d + 1, a, acc => if (recAt l a).2.2 = true then recsGo l d (recAt l a).2.1 (acc ++ [(recAt l a).1]) else (acc, a)
def recs (l : List UInt8) : List (List UInt8) × Nat := recsGo l (l.length + 1) 0 []
theorem recAt_le (l : List UInt8) (a : Nat) (h : (recAt l a).2.2 = true) : a < (recAt l a).2.1 ∧ (recAt l a).2.1 ≤ l.length := by
  unfold recAt at h ⊢
  split at h
  · rename_i c
    rw [if_pos c]
    obtain ⟨m, e, h1, h2, _⟩ := readShort_ok l a c.1
    have : m = a := by omega
    subst this
    exact ⟨by simp only; omega, c.2.2.1⟩
  · cases h
theorem recsGo_le (l : List UInt8) : ∀ d a acc, a ≤ l.length → acc.length ≤ a → (recsGo l d a acc).1.length ≤ l.length ∧ (recsGo l d a acc).2 ≤ l.length
  | 0, a, acc, h, h' => ⟨by simp only [recsGo]; omega, h⟩
  | d + 1, a, acc, h, h' => by
    rw [recsGo]
    by_cases c : (recAt l a).2.2 = true
    · rw [if_pos c]
      have := recAt_le l a c
      exact recsGo_le l d _ _ this.2 (by simp; omega)
    · rw [if_neg c]; exact ⟨by simp only; omega, h⟩

def spRr (l : List UInt8) (s : Nat × Nat × List (List UInt8)) (x : Nat × Nat) : St := { t := [(0, .c (S l)), (4, .c (.row 9 x.1 0 s.2.2.length)), (5, .c (I s.2.1))], o := [(9, ⟨x.1, 1, true, false, srow s.2.2⟩)], n := x.2 }
def rrInv (l : List UInt8) (s : Nat × Nat × List (List UInt8)) : Prop := s.2.1 ≤ l.length ∧ l.length < s.2.1 + s.1 ∧ s.2.2.length ≤ s.2.1
def rrFin (q : List (List UInt8) × Nat) (m : Nat × Nat) : Out × St := (.ret, { t := [(2, .c (.row 9 m.1 0 q.1.length)), (3, .c (I q.2))], o := [(9, ⟨m.1, 1, true, false, srow q.1⟩)], n := m.2 })
theorem rr_says (num : Nat) (l0 : C) (l : List UInt8) (hl : l.length ≤ 1048576)
    (hgo : ∀ a acc v x, (recAt l (a : Nat)).2.2 = true → acc.length ≤ 4294967295 → ∃ y, exC (run M) (l.length + 2) l0 (spRr l (num, a, acc) (v, x)) = some (.normal, spRr l (num, (recAt l a).2.1, acc ++ [(recAt l a).1]) y))
    (hend : ∀ a acc v x, (recAt l (a : Nat)).2.2 = false → ∃ y, exC (run M) (l.length + 2) l0 (spRr l (num, a, acc) (v, x)) = some (rrFin (acc, a) y)) :
    ∃ g : Nat × Nat → Nat × Nat, ∀ x, loopN (exC (run M) (l.length + 2) l0) (l.length + 2) (spRr l (l.length + 1, 0, []) x) = some (rrFin (recs l) (g x)) := by
  refine loop_all (f := exC (run M) (l.length + 2) l0) (spRr l) (rrInv l) (fun s => s.1) (fun s => recsGo l s.1 s.2.1 s.2.2) rrFin ?_ (l.length + 2) (l.length + 1, 0, []) ⟨by simp, by simp, by simp⟩ (by simp)
  rintro ⟨d, a, acc⟩ ⟨v, x⟩ ⟨h1, h2, h3⟩
  simp only at h1 h2 h3
  cases d with
  | zero => omega
  | succ d =>
    by_cases c : (recAt l a).2.2 = true
    · left
      obtain ⟨y, hy⟩ := hgo a acc v x c (by omega)
      have hle := recAt_le l a c
      exact ⟨(d, (recAt l a).2.1, acc ++ [(recAt l a).1]), y, hy, ⟨hle.2, by simp only; omega, by simp; omega⟩, by simp, by simp only [recsGo, c, if_true]⟩
    · right
      obtain ⟨y, hy⟩ := hend a acc v x (by simpa using c)
      exact ⟨y, by simp only [recsGo, c]; exact hy, by simp [rrFin]⟩
theorem spec_ReadRecords.says (h : spec_ReadRecords.k M) (l : List UInt8) (hl : l.length ≤ 1048576) : run M 12 [.c (S l)] [] = some (.tup [.c (.sl true 1 (srow (recs l).1)), .c (I (recs l).2)], []) := by
  refine run_code (b := spec_ReadRecords.m) h.1 ⟨l.length + 2, ?_⟩
  obtain ⟨g, hr⟩ := rr_says (M := M) 0 spec_ReadRecords.l0 l hl
    (fun a acc v x c hc => by
      have h1 := spec_l12Read.says h.2 l hl a
      rw [c] at h1
      have e : acc.length + 1 ≤ 4294967296 := by omega
      simp only [Prod.exists]
      simp [spRr, spec_ReadRecords.l0, h1, e, srow_snoc, List.take_of_length_le])
    (fun a acc v x c => by
      have h1 := spec_l12Read.says h.2 l hl a
      rw [c] at h1
      simp only [Prod.exists]
      simp [spRr, rrFin, spec_ReadRecords.l0, h1])
  simp [spRr, rrFin] at hr
  simp [exB, spec_ReadRecords.m, spec_ReadRecords.b, List.range_succ, hr, List.take_of_length_le]
theorem impl_ReadRecords.says (h : impl_ReadRecords.k M) (l : List UInt8) (hl : l.length ≤ 1048576) : run M 13 [.c (S l)] [] = some (.tup [.c (.sl true 1 (srow (recs l).1)), .c (I (recs l).2)], []) := by
  refine run_code (b := impl_ReadRecords.m) h.1 ⟨l.length + 2, ?_⟩
  obtain ⟨g, hr⟩ := rr_says (M := M) 0 impl_ReadRecords.l0 l hl
    (fun a acc v x c hc => by
      have h1 := impl_recordAt.says h.2 l hl a
      rw [c] at h1
      have e : acc.length + 1 ≤ 4294967296 := by omega
      simp only [Prod.exists]
      simp [spRr, impl_ReadRecords.l0, h1, e, srow_snoc, List.take_of_length_le])
    (fun a acc v x c => by
      have h1 := impl_recordAt.says h.2 l hl a
      rw [c] at h1
      simp only [Prod.exists]
      simp [spRr, rrFin, impl_ReadRecords.l0, h1])
  simp [spRr, rrFin] at hr
  simp [exB, impl_ReadRecords.m, impl_ReadRecords.b, List.range_succ, hr, List.take_of_length_le]

/-! ## texts: held against, marked -/
def eqSt (l : List (List UInt8)) (i : Nat) (x : Nat) : St := { t := [(0, .c (strs l)), (1, .c (strs l)), (5, .c (I i))], o := [], n := x }
theorem laws_eqStringS.says (h : laws_eqStringS.k M) (l : List (List UInt8)) (hl : l.length ≤ 4611686018427387904) : run M 14 [.c (strs l), .c (strs l)] [] = some (.c (.bool true), []) := by
  refine run_code (b := laws_eqStringS.m) h ⟨l.length + 1, ?_⟩
  obtain ⟨g, hr⟩ := loop_all (f := exC (run M) (l.length + 1) laws_eqStringS.l0) (eqSt l) (fun i => i ≤ l.length) (fun i => l.length - i) (fun _ => ())
    (fun _ m => (.exit 0, { t := [(0, .c (strs l)), (1, .c (strs l)), (5, .c (I l.length)), (14, .c (.bool false))], o := [], n := m }))
    (by
      intro i x hi
      by_cases hlt : i < l.length
      · have e5 : IntKind.i64.wrap ((i : Int) + 1) = (i : Int) + 1 := wrap_i64 (by omega) (by omega)
        obtain ⟨y, hy⟩ : ∃ y, exC (run M) (l.length + 1) laws_eqStringS.l0 (eqSt l i x) = some (.normal, eqSt l (i + 1) y) := by simp [eqSt, laws_eqStringS.l0, hlt, e5]
        exact .inl ⟨i + 1, y, hy, hlt, by omega, rfl⟩
      · have : i = l.length := by omega
        subst this
        exact .inr ⟨x + 64, by simp [eqSt, laws_eqStringS.l0], by simp⟩)
    (l.length + 1) 0 (Nat.zero_le _) (by omega)
  simp [eqSt] at hr
  simp [exB, laws_eqStringS.m, laws_eqStringS.b, List.range_succ, hr]

def markT (k : Nat) : List UInt8 := 109 :: digs k []
def mkTx (s : Nat × List UInt8) (x : Nat) : St := { t := [(0, .c (I s.1)), (3, .c (S s.2))], o := [], n := x }
theorem fig_wrap (d : Nat) (h : d < 10) : IntKind.u8.wrap (IntKind.i64.wrap (48 + (d : Int))) = ((fig d).toNat : Int) := by
  rw [wrap_i64 (by omega) (by omega)]
  unfold IntKind.wrap; simp [IntKind.bits, IntKind.signed, fig] <;> omega
theorem laws_markText.says (h : laws_markText.k M) (k : Nat) (h0 : 1 ≤ k) (hk : k ≤ 9223372036854775807) : run M 106 [.c (I k)] [] = some (.c (S (markT k)), []) := by
  refine run_code (b := laws_markText.m) h ⟨k + 1, ?_⟩
  have h0' : ¬ k = 0 := by omega
  obtain ⟨g, hr⟩ := loop_all (f := exC (run M) (k + 1) laws_markText.l0) mkTx (fun s => s.1 ≤ 9223372036854775807 ∧ ∃ j, s.1 < 10 ^ j ∧ s.2.length + j ≤ 20) (fun s => s.1) (fun s => digs s.1 s.2)
    (fun q m => (.exit 0, { t := [(0, .c (I 0)), (3, .c (S q)), (7, .c (.bool false))], o := [], n := m }))
    (by
      rintro ⟨i, acc⟩ x ⟨h1, j, h2, h3⟩
      simp only at h1 h2 h3
      by_cases hs : i = 0
      · right
        subst hs
        exact ⟨x + 32, by simp [mkTx, laws_markText.l0, digs_zero], by simp⟩
      · left
        have hs' : 0 < i := by omega
        have e1 : (i : Int).tmod 10 = ((i % 10 : Nat) : Int) := by rw [Int.tmod_eq_emod_of_nonneg (by omega)]; omega
        have e2 : IntKind.i64.wrap ((i : Int).tdiv 10) = ((i / 10 : Nat) : Int) := by
          rw [Int.tdiv_eq_ediv_of_nonneg (by omega), wrap_i64 (by omega) (by omega)]; omega
        have e2' : IntKind.i64.wrap ((i : Int) / 10) = (i : Int) / 10 := wrap_i64 (by omega) (by omega)
        have e3 := fig_wrap (i % 10) (by omega)
        have e4 : acc.length + 1 ≤ 4611686018427387904 := by omega
        have e4' : 1 + acc.length ≤ 4611686018427387904 := by omega
        generalize hf : fig (i % 10) = b at e3
        obtain ⟨y, hy⟩ : ∃ y, exC (run M) (k + 1) laws_markText.l0 (mkTx (i, acc) x) = some (.normal, mkTx (i / 10, b :: acc) y) := by
          simp only [mkTx, laws_markText.l0]
          simp only [Int.natCast_emod, Int.cast_ofNat_Int] at e3 e1
          simp (disch := (first | omega | (simp; done) | (simp; omega))) [hs', e1, e2', e3, str_add, rowsBytes]
        refine ⟨(i / 10, b :: acc), y, hy, ⟨by simp only; omega, ?_⟩, by simp only; omega, ?_⟩
        · cases j with
          | zero => simp at h2; omega
          | succ j => exact ⟨j, by simp only; rw [Nat.pow_succ] at h2; omega, by simp; omega⟩
        · simp only; rw [digs_step hs, hf])
    (k + 1) (k, []) ⟨hk, 20, by simp only; omega, by simp⟩ (by simp)
  have hl := digs_len 20 k [] (by omega)
  simp [mkTx] at hr hl
  simp (disch := (first | omega | (simp; done) | (simp; omega))) [exB, laws_markText.m, laws_markText.b, List.range_succ, h0', hr, markT, str_add]
def marks (k : Nat) : Nat → List (List UInt8)
  | 0 => []
  | n + 1 => marks k n ++ [markT (k + n)]
theorem marks_len (k n : Nat) : (marks k n).length = n := by
  induction n with
  | zero => rfl
  | succ n ih => simp [marks, ih]
attribute [simp] marks_len
theorem marks_at (k n i : Nat) (h : i < n) (h' : i < (marks k n).length) : (marks k n)[i] = markT (k + i) := by
  induction n with
  | zero => omega
  | succ n ih =>
    simp only [marks]
    by_cases e : i < n
    · rw [List.getElem_append_left (by simpa using e)]; exact ih e _
    · have : i = n := by omega
      subst this
      rw [List.getElem_append_right (by simp)]; simp
def mkSt (k : Nat) (l : List (List UInt8)) (i : Nat) (x : Nat) : St := { t := [(0, .c (.row 0 0 0 l.length)), (1, .c (I ((k : Int) + i))), (5, .c (I i))], o := [(0, ⟨0, 1, true, false, srow (marks k i ++ l.drop i)⟩)], n := x }
theorem laws_markStringS.says (h : laws_markStringS.k M) (l : List (List UInt8)) (k : Nat) (hk : 1 ≤ k) (hl : k + l.length ≤ 9223372036854775807) (hl2 : l.length ≤ 4611686018427387904) :
    run M 15 [.c (.row 0 0 0 l.length), .c (I k)] [(0, ⟨0, 1, true, false, srow l⟩)] = some (.c (I ((k : Int) + l.length)), [(0, ⟨0, 1, true, false, srow (marks k l.length)⟩)]) := by
  refine run_code (b := laws_markStringS.m) h.1 ⟨l.length + 1, ?_⟩
  obtain ⟨g, hr⟩ := loop_all (f := exC (run M) (l.length + 1) laws_markStringS.l0) (mkSt k l) (fun i => i ≤ l.length) (fun i => l.length - i) (fun _ => ())
    (fun _ m => (.exit 0, { t := [(0, .c (.row 0 0 0 l.length)), (1, .c (I ((k : Int) + l.length))), (5, .c (I l.length)), (9, .c (.bool false))], o := [(0, ⟨0, 1, true, false, srow (marks k l.length)⟩)], n := m }))
    (by
      intro i x hi
      by_cases hlt : i < l.length
      · have e5 : IntKind.i64.wrap ((i : Int) + 1) = (i : Int) + 1 := wrap_i64 (by omega) (by omega)
        have e6 : IntKind.i64.wrap ((k : Int) + (i : Int) + 1) = (k : Int) + (i : Int) + 1 := wrap_i64 (by omega) (by omega)
        have e7 : (k : Int) + ((i : Int) + 1) = (k : Int) + (i : Int) + 1 := by omega
        have e8 : i + (l.length - i) = l.length := by omega
        have hm := laws_markText.says h.2 (k + i) (by omega) (by omega)
        rw [Int.natCast_add] at hm
        have hd := List.drop_eq_getElem_cons hlt
        have h3 : (srow (marks k i ++ l.drop i))[i]? = some [S l[i]] := by
          rw [hd]; simp only [srow, List.map_append, List.map_cons]; exact at_mid _ _ _ _ (by simp)
        have h3' : ∀ h, (srow (marks k i ++ l.drop i))[i]'h = [S l[i]] := fun h => by rw [List.getElem?_eq_getElem h] at h3; exact Option.some.inj h3
        have h4 : (srow (marks k i ++ l.drop i)).set i [S (markT (k + i))] = srow (marks k (i + 1) ++ l.drop (i + 1)) := by
          rw [hd]; simp only [srow, List.map_append, List.map_cons, marks, List.append_assoc, List.cons_append, List.nil_append, List.map_nil]; exact set_mid _ _ _ _ (by simp) _
        obtain ⟨y, hy⟩ : ∃ y, exC (run M) (l.length + 1) laws_markStringS.l0 (mkSt k l i x) = some (.normal, mkSt k l (i + 1) y) := by
          simp [mkSt, laws_markStringS.l0, hlt, e5, e6, e7, e8, hm, h3', h4, setAt, -srow_at]
        exact .inl ⟨i + 1, y, hy, hlt, by omega, rfl⟩
      · have : i = l.length := by omega
        subst this
        exact .inr ⟨x + 64, by simp [mkSt, laws_markStringS.l0], by simp⟩)
    (l.length + 1) 0 (Nat.zero_le _) (by omega)
  simp [mkSt, marks] at hr
  simp [exB, laws_markStringS.m, laws_markStringS.b, List.range_succ, hr]
def heSt (k : Nat) (n : Nat) (i : Nat) (x : Nat) : St := { t := [(0, .c (strs (marks k n))), (1, .c (I ((k : Int) + i))), (5, .c (I i))], o := [], n := x }
theorem laws_heldStringS.says (h : laws_heldStringS.k M) (n : Nat) (k : Nat) (hk : 1 ≤ k) (hl : k + n ≤ 9223372036854775807) (hl2 : n ≤ 4611686018427387904) :
    run M 16 [.c (strs (marks k n)), .c (I k)] [] = some (.c (I ((k : Int) + n)), []) := by
  refine run_code (b := laws_heldStringS.m) h.1 ⟨n + 1, ?_⟩
  obtain ⟨g, hr⟩ := loop_all (f := exC (run M) (n + 1) laws_heldStringS.l0) (heSt k n) (fun i => i ≤ n) (fun i => n - i) (fun _ => ())
    (fun _ m => (.exit 0, { t := [(0, .c (strs (marks k n))), (1, .c (I ((k : Int) + n))), (5, .c (I n)), (9, .c (.bool false))], o := [], n := m }))
    (by
      intro i x hi
      by_cases hlt : i < n
      · have e5 : IntKind.i64.wrap ((i : Int) + 1) = (i : Int) + 1 := wrap_i64 (by omega) (by omega)
        have e6 : IntKind.i64.wrap ((k : Int) + (i : Int) + 1) = (k : Int) + (i : Int) + 1 := wrap_i64 (by omega) (by omega)
        have e7 : (k : Int) + ((i : Int) + 1) = (k : Int) + (i : Int) + 1 := by omega
        have hm := laws_markText.says h.2 (k + i) (by omega) (by omega)
        rw [Int.natCast_add] at hm
        have e8 := marks_at k n i hlt (by simpa using hlt)
        obtain ⟨y, hy⟩ : ∃ y, exC (run M) (n + 1) laws_heldStringS.l0 (heSt k n i x) = some (.normal, heSt k n (i + 1) y) := by
          simp [heSt, laws_heldStringS.l0, hlt, e5, e6, e7, e8, hm]
        exact .inl ⟨i + 1, y, hy, hlt, by omega, rfl⟩
      · have : i = n := by omega
        subst this
        exact .inr ⟨x + 64, by simp [heSt, laws_heldStringS.l0], by simp⟩)
    (n + 1) 0 (Nat.zero_le _) (by omega)
  simp [heSt] at hr
  simp [exB, laws_heldStringS.m, laws_heldStringS.b, List.range_succ, hr]

theorem laws_FnExactReadRecords.says (h : laws_FnExactReadRecords.k M) (l : List UInt8) : run M 364 [.c (S l)] [] = some (.c (.bool true), []) := by
  obtain ⟨h0, k1, k2, k3, k4, k5⟩ := h
  refine run_code (b := laws_FnExactReadRecords.m) h0 ⟨0, ?_⟩
  by_cases hc : (1048576 : Int) < l.length
  · simp [exB, laws_FnExactReadRecords.m, laws_FnExactReadRecords.b, List.range_succ, hc]
  have hl : l.length ≤ 1048576 := by omega
  have h1 := spec_ReadRecords.says k1 l hl
  have h2 := impl_ReadRecords.says k2 l hl
  have hle := recsGo_le l (l.length + 1) 0 [] (by omega) (by simp)
  have hle1 : (recs l).1.length ≤ 1048576 := by have := hle.1; unfold recs; omega
  have h3 := laws_eqStringS.says k3 (recs l).1 (by omega)
  have h4 := laws_markStringS.says k4 (recs l).1 1 (by omega) (by omega) (by omega)
  have h5 := laws_heldStringS.says k5 (recs l).1.length 1 (by omega) (by omega) (by omega)
  simp only [Int.cast_ofNat_Int] at h4 h5
  have e2 : ¬ 1 + ((recs l).1.length : Int) < 0 := by omega
  generalize (recs l).1 = r at *
  generalize (recs l).2 = m at *
  simp [exB, laws_FnExactReadRecords.m, laws_FnExactReadRecords.b, List.range_succ, hc, h1, h2, h3, h4, h5, e2, List.take_of_length_le]
theorem laws_FnExactReadRecords.row (h : laws_FnExactReadRecords.k M) {as : List V} (ha : HasVs [.cell .str] as) : run M 364 as [] = some (.c (.bool true), []) := by
  cases ha with | cons h0 ha =>
  cases ha
  cases h0 with | cell h0 =>
  cases h0 with | str s hs =>
  obtain ⟨l, rfl⟩ := of_bytes s
  exact laws_FnExactReadRecords.says h l
end Mx

/-
  Small codes: impl.within, spec.l01In.
-/
import Derived.Test.YtddgjibndegbaaaMxB
namespace Mx
open Go
def impl_within.b : C := .seq (.reg [⟨some 6, .mv (.k (.bool false)), none⟩] [0, 1, 2] [])
  (.seq (.reg [⟨some 7, .mv (.t 0), none⟩,
    ⟨some 8, .mv (.t 1), none⟩,
    ⟨some 9, .bin .geq (.t 7) (.t 8), none⟩,
    ⟨some 10, .mv (.t 9), none⟩,
    ⟨some 11, .mv (.t 0), some (10, true)⟩,
    ⟨some 12, .mv (.t 2), some (10, true)⟩,
    ⟨some 13, .bin .leq (.t 11) (.t 12), some (10, true)⟩,
    ⟨some 14, .pick (.t 10) (.t 13) (.k (.bool false)), none⟩,
    ⟨some 6, .mv (.t 14), none⟩] [6] [])
  (.ret))
def impl_within.m : Fn := { np := 3, body := impl_within.b, res := [.tmp 6] }
def impl_within.k (M : Nat → Option Body) : Prop := M 101 = some (.code impl_within.m)
def spec_l01In.b : C := .seq (.reg [⟨some 6, .mv (.k (.bool false)), none⟩] [0, 1, 2] [])
  (.seq (.reg [⟨some 7, .mv (.t 0), none⟩,
    ⟨some 8, .mv (.t 1), none⟩,
    ⟨some 9, .bin .geq (.t 7) (.t 8), none⟩,
    ⟨some 10, .mv (.t 9), none⟩,
    ⟨some 11, .mv (.t 0), some (10, true)⟩,
    ⟨some 12, .mv (.t 2), some (10, true)⟩,
    ⟨some 13, .bin .leq (.t 11) (.t 12), some (10, true)⟩,
    ⟨some 14, .pick (.t 10) (.t 13) (.k (.bool false)), none⟩,
    ⟨some 6, .mv (.t 14), none⟩] [6] [])
  (.ret))
def spec_l01In.m : Fn := { np := 3, body := spec_l01In.b, res := [.tmp 6] }
def spec_l01In.k (M : Nat → Option Body) : Prop := M 98 = some (.code spec_l01In.m)
end Mx

/-
  What within answers.
-/
namespace Mx
open Go
variable {M : Nat → Option Body}
theorem impl_within.says (h : impl_within.k M) (n a b : Int) : run M 101 [.c (I n), .c (I a), .c (I b)] [] = some (.c (.bool (decide (a ≤ n) && decide (n ≤ b))), []) := by
  refine run_code (b := impl_within.m) h ⟨0, ?_⟩
  by_cases h : a ≤ n
  · have h' : n ≥ a := h
    simp [exB, impl_within.m, impl_within.b, List.range_succ, h]
  · have h' : ¬ n ≥ a := h
    simp [exB, impl_within.m, impl_within.b, List.range_succ, h]
theorem spec_l01In.says (h : spec_l01In.k M) (n a b : Int) : run M 98 [.c (I n), .c (I a), .c (I b)] [] = some (.c (.bool (decide (a ≤ n) && decide (n ≤ b))), []) := by
  refine run_code (b := spec_l01In.m) h ⟨0, ?_⟩
  by_cases h : a ≤ n
  · have h' : n ≥ a := h
    simp [exB, spec_l01In.m, spec_l01In.b, List.range_succ, h]
  · have h' : ¬ n ≥ a := h
    simp [exB, spec_l01In.m, spec_l01In.b, List.range_succ, h]
end Mx

/-
  Numbers bit by bit.
-/
namespace Mx
open Go
theorem wrap_u8 (x : Int) : IntKind.u8.wrap x = x % 256 := by
  unfold IntKind.wrap; simp [IntKind.bits, IntKind.signed]
theorem wrap_u32 (x : Int) : IntKind.u32.wrap x = x % 4294967296 := by
  unfold IntKind.wrap; simp [IntKind.bits, IntKind.signed]

theorem andI_eq (k : IntKind) (x y : Int) : andI k x y = k.wrap (((x % ((2 ^ k.bits : Nat) : Int)).toNat &&& (y % ((2 ^ k.bits : Nat) : Int)).toNat : Nat) : Int) := by
  unfold andI; rw [BitVec.toNat_and, BitVec.toNat_ofInt, BitVec.toNat_ofInt]
theorem orI_eq (k : IntKind) (x y : Int) : orI k x y = k.wrap (((x % ((2 ^ k.bits : Nat) : Int)).toNat ||| (y % ((2 ^ k.bits : Nat) : Int)).toNat : Nat) : Int) := by
  unfold orI; rw [BitVec.toNat_or, BitVec.toNat_ofInt, BitVec.toNat_ofInt]
theorem and_i64 (n m : Nat) (hn : n < 9223372036854775808) (hm : m < 9223372036854775808) : andI .i64 n m = ((n &&& m : Nat) : Int) := by
  rw [andI_eq]
  have e : ∀ k : Nat, k < 9223372036854775808 → ((k : Int) % ((2 ^ IntKind.i64.bits : Nat) : Int)).toNat = k := by
    intro k hk
    show ((k : Int) % 18446744073709551616).toNat = k
    omega
  rw [e n hn, e m hm]
  have : n &&& m ≤ n := Nat.and_le_left
  exact wrap_i64 (by omega) (by omega)
theorem or_i64 (n m : Nat) (hn : n < 9223372036854775808) (hm : m < 9223372036854775808) : orI .i64 n m = ((n ||| m : Nat) : Int) := by
  rw [orI_eq]
  have e : ∀ k : Nat, k < 9223372036854775808 → ((k : Int) % ((2 ^ IntKind.i64.bits : Nat) : Int)).toNat = k := by
    intro k hk
    show ((k : Int) % 18446744073709551616).toNat = k
    omega
  rw [e n hn, e m hm]
  have : n ||| m < 2 ^ 63 := Nat.or_lt_two_pow (by omega) (by omega)
  exact wrap_i64 (by omega) (by omega)
theorem and_u8 (n m : Nat) (hn : n < 256) (hm : m < 256) : andI .u8 n m = ((n &&& m : Nat) : Int) := by
  rw [andI_eq]
  have e : ∀ k : Nat, k < 256 → ((k : Int) % ((2 ^ IntKind.u8.bits : Nat) : Int)).toNat = k := by
    intro k hk
    show ((k : Int) % 256).toNat = k
    omega
  rw [e n hn, e m hm, wrap_u8]
  have : n &&& m ≤ n := Nat.and_le_left
  omega
theorem and_127 (n : Nat) : n &&& 127 = n % 128 := Nat.and_two_pow_sub_one_eq_mod n 7
theorem or_128 (n : Nat) (h : n < 128) : n ||| 128 = n + 128 := by
  have := Nat.two_pow_add_eq_or_of_lt (i := 7) (b := n) h 1
  rw [Nat.or_comm]
  have e : 2 ^ 7 * 1 = 128 := by decide
  rw [e] at this
  omega
/-- digits above stand for themselves -/
theorem or_high (n d k : Nat) (h : n < 128 ^ k) : n ||| d * 128 ^ k = n + d * 128 ^ k := by
  have e : (128 : Nat) ^ k = 2 ^ (7 * k) := by rw [show (128 : Nat) = 2 ^ 7 by decide, ← Nat.pow_mul]
  rw [e] at h ⊢
  have := Nat.two_pow_add_eq_or_of_lt (i := 7 * k) (b := n) h d
  rw [Nat.or_comm, Nat.mul_comm d, ← this, Nat.add_comm]
theorem brow_nil : brow [] = [] := rfl
theorem brow1 (b : UInt8) : [[T.int .u8 (b.toNat : Int)]] = brow [b] := rfl
theorem ofNat_toNat (n : Nat) : ((UInt8.ofNat n).toNat : Int) = (n : Int) % 256 := by simp
attribute [simp] brow_nil
end Mx

/-
  Small codes: spec.l02Four, impl.four, spec.SumMore, spec.SumOf, impl.SumMore, impl.SumOf, spec.Sealed, impl.Sealed, spec.Unsealed, impl.fourAt, impl.Unsealed.
-/
namespace Mx
open Go
def spec_l02Four.b : C := .seq (.reg [⟨some 2, .mv (.k (.str ⟨#[]⟩)), none⟩] [0] [])
  (.seq (.reg [⟨some 3, .mv (.t 0), none⟩,
    ⟨some 4, .bin .shr (.t 3) (.k (.int .u64 24)), none⟩,
    ⟨some 5, .i2i .u8 (.t 4), none⟩,
    ⟨some 6, .mv (.t 0), none⟩,
    ⟨some 7, .bin .shr (.t 6) (.k (.int .u64 16)), none⟩,
    ⟨some 8, .i2i .u8 (.t 7), none⟩,
    ⟨some 9, .mv (.t 0), none⟩,
    ⟨some 10, .bin .shr (.t 9) (.k (.int .u64 8)), none⟩,
    ⟨some 11, .i2i .u8 (.t 10), none⟩,
    ⟨some 12, .mv (.t 0), none⟩,
    ⟨some 13, .i2i .u8 (.t 12), none⟩,
    ⟨some 14, .bslice 1 4 [.int .u8 0] [(0, .t 5), (1, .t 8), (2, .t 11), (3, .t 13)], none⟩,
    ⟨some 15, .b2s (.t 14), none⟩,
    ⟨some 2, .mv (.t 15), none⟩] [2] [])
  (.ret))
def spec_l02Four.m : Fn := { np := 1, body := spec_l02Four.b, res := [.tmp 2] }
def spec_l02Four.k (M : Nat → Option Body) : Prop := M 202 = some (.code spec_l02Four.m)
def impl_four.b : C := .seq (.reg [⟨some 2, .mv (.k (.str ⟨#[]⟩)), none⟩] [0] [])
  (.seq (.reg [⟨some 3, .mv (.t 0), none⟩,
    ⟨some 4, .bin .shr (.t 3) (.k (.int .u64 24)), none⟩,
    ⟨some 5, .i2i .u8 (.t 4), none⟩,
    ⟨some 6, .mv (.t 0), none⟩,
    ⟨some 7, .bin .shr (.t 6) (.k (.int .u64 16)), none⟩,
    ⟨some 8, .i2i .u8 (.t 7), none⟩,
    ⟨some 9, .mv (.t 0), none⟩,
    ⟨some 10, .bin .shr (.t 9) (.k (.int .u64 8)), none⟩,
    ⟨some 11, .i2i .u8 (.t 10), none⟩,
    ⟨some 12, .mv (.t 0), none⟩,
    ⟨some 13, .i2i .u8 (.t 12), none⟩,
    ⟨some 14, .bslice 1 4 [.int .u8 0] [(0, .t 5), (1, .t 8), (2, .t 11), (3, .t 13)], none⟩,
    ⟨some 15, .b2s (.t 14), none⟩,
    ⟨some 2, .mv (.t 15), none⟩] [2] [])
  (.ret))
def impl_four.m : Fn := { np := 1, body := impl_four.b, res := [.tmp 2] }
def impl_four.k (M : Nat → Option Body) : Prop := M 204 = some (.code impl_four.m)
def spec_SumMore.l1 : C := .seq (.seq (.reg [⟨some 20, .mv (.t 6), none⟩,
    ⟨some 21, .bin .lss (.t 20) (.k (.int .i64 8)), none⟩] [0, 1, 5, 6, 21] [])
  (.cond (.t 21) (.skip) (.exit 2)))
  (.seq (.block 3 (.seq (.reg [⟨some 24, .mv (.t 0), none⟩,
    ⟨some 25, .bin .rem (.t 24) (.k (.int .u32 2)), none⟩,
    ⟨some 26, .bin .eql (.t 25) (.k (.int .u32 1)), none⟩,
    ⟨some 7, .mv (.t 26), none⟩] [0, 1, 5, 6, 7] [])
  (.seq (.reg [⟨some 27, .mv (.t 0), none⟩,
    ⟨some 28, .bin .quo (.t 27) (.k (.int .u32 2)), none⟩,
    ⟨some 0, .mv (.t 28), none⟩] [0, 1, 5, 6, 7] [])
  (.seq (.reg [⟨some 29, .mv (.t 7), none⟩] [0, 1, 5, 6, 29] [])
  (.cond (.t 29) (.reg [⟨some 30, .mv (.t 0), none⟩,
    ⟨some 31, .bin .xor (.t 30) (.k (.int .u32 3558460437)), none⟩,
    ⟨some 0, .mv (.t 31), none⟩] [0, 1, 5, 6] []) (.skip))))))
  (.reg [⟨some 22, .mv (.t 6), none⟩,
    ⟨some 23, .bin .add (.t 22) (.k (.int .i64 1)), none⟩,
    ⟨some 6, .mv (.t 23), none⟩] [0, 1, 5, 6] []))
def spec_SumMore.l0 : C := .seq (.seq (.reg [⟨some 8, .mv (.t 5), none⟩,
    ⟨some 9, .mv (.t 1), none⟩,
    ⟨some 10, .slen (.t 9), none⟩,
    ⟨some 11, .bin .lss (.t 8) (.t 10), none⟩] [0, 1, 5, 11] [])
  (.cond (.t 11) (.skip) (.exit 0)))
  (.seq (.block 1 (.seq (.reg [⟨some 14, .mv (.t 0), none⟩,
    ⟨some 15, .mv (.t 1), none⟩,
    ⟨some 16, .mv (.t 5), none⟩,
    ⟨some 17, .idx (.t 15) (.t 16), none⟩,
    ⟨some 18, .i2i .u32 (.t 17), none⟩,
    ⟨some 19, .bin .xor (.t 14) (.t 18), none⟩,
    ⟨some 0, .mv (.t 19), none⟩] [0, 1, 5] [])
  (.seq (.reg [⟨some 6, .mv (.k (.int .i64 0)), none⟩] [0, 1, 5, 6] [])
  (.block 2 (.loop spec_SumMore.l1)))))
  (.reg [⟨some 12, .mv (.t 5), none⟩,
    ⟨some 13, .bin .add (.t 12) (.k (.int .i64 1)), none⟩,
    ⟨some 5, .mv (.t 13), none⟩] [0, 1, 5] []))
def spec_SumMore.b : C := .seq (.reg [⟨some 4, .mv (.k (.int .u32 0)), none⟩] [0, 1] [])
  (.seq (.seq (.reg [⟨some 5, .mv (.k (.int .i64 0)), none⟩] [0, 1, 5] [])
  (.block 0 (.loop spec_SumMore.l0)))
  (.seq (.reg [⟨some 32, .mv (.t 0), none⟩,
    ⟨some 4, .mv (.t 32), none⟩] [4] [])
  (.ret)))
def spec_SumMore.m : Fn := { np := 2, body := spec_SumMore.b, res := [.tmp 4] }
def spec_SumMore.k (M : Nat → Option Body) : Prop := M 248 = some (.code spec_SumMore.m)
def spec_SumOf.b : C := .seq (.reg [⟨some 2, .mv (.k (.int .u32 0)), none⟩] [0] [])
  (.seq (.reg [⟨some 3, .mv (.t 0), none⟩,
    ⟨some 4, .call 248 [.k (.int .u32 4294967295), .t 3] [] [], none⟩,
    ⟨some 2, .mv (.t 4), none⟩] [2] [])
  (.ret))
def spec_SumOf.m : Fn := { np := 1, body := spec_SumOf.b, res := [.tmp 2] }
def spec_SumOf.k (M : Nat → Option Body) : Prop := M 201 = some (.code spec_SumOf.m) ∧ spec_SumMore.k M
def impl_SumMore.l1 : C := .seq (.reg [⟨some 20, .bin .lss (.t 19) (.k (.int .i64 8)), none⟩] [0, 1, 5, 19, 20] [])
  (.seq (.cond (.t 20) (.skip) (.exit 2))
  (.seq (.block 3 (.seq (.reg [⟨some 21, .mv (.t 0), none⟩,
    ⟨some 22, .bin .and (.t 21) (.k (.int .u32 1)), none⟩,
    ⟨some 6, .mv (.t 22), none⟩] [0, 1, 5, 6, 19] [])
  (.seq (.reg [⟨some 23, .mv (.t 0), none⟩,
    ⟨some 24, .bin .shr (.t 23) (.k (.int .u64 1)), none⟩,
    ⟨some 0, .mv (.t 24), none⟩] [0, 1, 5, 6, 19] [])
  (.seq (.reg [⟨some 25, .mv (.t 6), none⟩,
    ⟨some 26, .bin .eql (.t 25) (.k (.int .u32 1)), none⟩] [0, 1, 5, 19, 26] [])
  (.cond (.t 26) (.reg [⟨some 27, .mv (.t 0), none⟩,
    ⟨some 28, .bin .xor (.t 27) (.k (.int .u32 3558460437)), none⟩,
    ⟨some 0, .mv (.t 28), none⟩] [0, 1, 5, 19] []) (.skip))))))
  (.reg [⟨some 29, .bin .add (.t 19) (.k (.int .i64 1)), none⟩,
    ⟨some 19, .mv (.t 29), none⟩] [0, 1, 5, 19] [])))
def impl_SumMore.l0 : C := .seq (.seq (.reg [⟨some 7, .mv (.t 5), none⟩,
    ⟨some 8, .mv (.t 1), none⟩,
    ⟨some 9, .slen (.t 8), none⟩,
    ⟨some 10, .bin .lss (.t 7) (.t 9), none⟩] [0, 1, 5, 10] [])
  (.cond (.t 10) (.skip) (.exit 0)))
  (.seq (.block 1 (.seq (.reg [⟨some 13, .mv (.t 0), none⟩,
    ⟨some 14, .mv (.t 1), none⟩,
    ⟨some 15, .mv (.t 5), none⟩,
    ⟨some 16, .idx (.t 14) (.t 15), none⟩,
    ⟨some 17, .i2i .u32 (.t 16), none⟩,
    ⟨some 18, .bin .xor (.t 13) (.t 17), none⟩,
    ⟨some 0, .mv (.t 18), none⟩] [0, 1, 5] [])
  (.seq (.reg [⟨some 19, .mv (.k (.int .i64 0)), none⟩] [0, 1, 5, 19] [])
  (.block 2 (.loop impl_SumMore.l1)))))
  (.reg [⟨some 11, .mv (.t 5), none⟩,
    ⟨some 12, .bin .add (.t 11) (.k (.int .i64 1)), none⟩,
    ⟨some 5, .mv (.t 12), none⟩] [0, 1, 5] []))
def impl_SumMore.b : C := .seq (.reg [⟨some 4, .mv (.k (.int .u32 0)), none⟩] [0, 1] [])
  (.seq (.seq (.reg [⟨some 5, .mv (.k (.int .i64 0)), none⟩] [0, 1, 5] [])
  (.block 0 (.loop impl_SumMore.l0)))
  (.seq (.reg [⟨some 30, .mv (.t 0), none⟩,
    ⟨some 4, .mv (.t 30), none⟩] [4] [])
  (.ret)))
def impl_SumMore.m : Fn := { np := 2, body := impl_SumMore.b, res := [.tmp 4] }
def impl_SumMore.k (M : Nat → Option Body) : Prop := M 249 = some (.code impl_SumMore.m)
def impl_SumOf.b : C := .seq (.reg [⟨some 2, .mv (.k (.int .u32 0)), none⟩] [0] [])
  (.seq (.reg [⟨some 3, .mv (.t 0), none⟩,
    ⟨some 4, .call 249 [.k (.int .u32 4294967295), .t 3] [] [], none⟩,
    ⟨some 2, .mv (.t 4), none⟩] [2] [])
  (.ret))
def impl_SumOf.m : Fn := { np := 1, body := impl_SumOf.b, res := [.tmp 2] }
def impl_SumOf.k (M : Nat → Option Body) : Prop := M 203 = some (.code impl_SumOf.m) ∧ impl_SumMore.k M
def spec_Sealed.b : C := .seq (.reg [⟨some 2, .mv (.k (.str ⟨#[]⟩)), none⟩,
    ⟨some 3, .mv (.k (.bool false)), none⟩] [0] [])
  (.seq (.seq (.reg [⟨some 4, .mv (.t 0), none⟩,
    ⟨some 5, .slen (.t 4), none⟩,
    ⟨some 6, .bin .gtr (.t 5) (.k (.int .i64 20000)), none⟩] [0, 6] [])
  (.cond (.t 6) (.seq (.reg [⟨some 2, .mv (.k (.str ⟨#[]⟩)), none⟩,
    ⟨some 3, .mv (.k (.bool false)), none⟩] [2, 3] [])
  (.ret)) (.skip)))
  (.seq (.reg [⟨some 7, .mv (.t 0), none⟩,
    ⟨some 8, .mv (.t 0), none⟩,
    ⟨some 9, .call 201 [.t 8] [] [], none⟩,
    ⟨some 10, .call 202 [.t 9] [] [], none⟩,
    ⟨some 11, .bin .add (.t 7) (.t 10), none⟩,
    ⟨some 2, .mv (.t 11), none⟩,
    ⟨some 3, .mv (.k (.bool true)), none⟩] [2, 3] [])
  (.ret)))
def spec_Sealed.m : Fn := { np := 1, body := spec_Sealed.b, res := [.tmp 2, .tmp 3] }
def spec_Sealed.k (M : Nat → Option Body) : Prop := M 100 = some (.code spec_Sealed.m) ∧ spec_SumOf.k M ∧ spec_l02Four.k M
def impl_Sealed.b : C := .seq (.reg [⟨some 2, .mv (.k (.str ⟨#[]⟩)), none⟩,
    ⟨some 3, .mv (.k (.bool false)), none⟩] [0] [])
  (.seq (.seq (.reg [⟨some 4, .mv (.t 0), none⟩,
    ⟨some 5, .slen (.t 4), none⟩,
    ⟨some 6, .bin .gtr (.t 5) (.k (.int .i64 20000)), none⟩] [0, 6] [])
  (.cond (.t 6) (.seq (.reg [⟨some 2, .mv (.k (.str ⟨#[]⟩)), none⟩,
    ⟨some 3, .mv (.k (.bool false)), none⟩] [2, 3] [])
  (.ret)) (.skip)))
  (.seq (.reg [⟨some 7, .mv (.t 0), none⟩,
    ⟨some 8, .mv (.t 0), none⟩,
    ⟨some 9, .call 203 [.t 8] [] [], none⟩,
    ⟨some 10, .i2i .i64 (.t 9), none⟩,
    ⟨some 11, .call 204 [.t 10] [] [], none⟩,
    ⟨some 12, .bin .add (.t 7) (.t 11), none⟩,
    ⟨some 2, .mv (.t 12), none⟩,
    ⟨some 3, .mv (.k (.bool true)), none⟩] [2, 3] [])
  (.ret)))
def impl_Sealed.m : Fn := { np := 1, body := impl_Sealed.b, res := [.tmp 2, .tmp 3] }
def impl_Sealed.k (M : Nat → Option Body) : Prop := M 103 = some (.code impl_Sealed.m) ∧ impl_SumOf.k M ∧ impl_four.k M
def spec_Unsealed.b : C := .seq (.reg [⟨some 2, .mv (.k (.str ⟨#[]⟩)), none⟩,
    ⟨some 3, .mv (.k (.bool false)), none⟩] [0] [])
  (.seq (.reg [⟨some 5, .mv (.t 0), none⟩,
    ⟨some 6, .slen (.t 5), none⟩,
    ⟨some 7, .bin .sub (.t 6) (.k (.int .i64 4)), none⟩,
    ⟨some 4, .mv (.t 7), none⟩] [0, 4] [])
  (.seq (.seq (.regd [⟨some 8, .mv (.t 4), none⟩,
    ⟨some 9, .bin .lss (.t 8) (.k (.int .i64 0)), none⟩,
    ⟨some 10, .mv (.t 9), none⟩,
    ⟨some 11, .mv (.t 4), some (10, false)⟩,
    ⟨some 12, .bin .gtr (.t 11) (.k (.int .i64 20000)), some (10, false)⟩,
    ⟨some 13, .pick (.t 10) (.k (.bool true)) (.t 12), none⟩,
    ⟨some 14, .mv (.t 13), none⟩,
    ⟨some 15, .mv (.t 0), some (14, false)⟩,
    ⟨some 16, .mv (.t 4), some (14, false)⟩,
    ⟨some 17, .sstr (.t 15) (some (.t 16)) none, some (14, false)⟩,
    ⟨some 18, .mv (.t 0), some (14, false)⟩,
    ⟨some 19, .mv (.t 4), some (14, false)⟩,
    ⟨some 20, .sstr (.t 18) none (some (.t 19)), some (14, false)⟩,
    ⟨some 21, .call 201 [.t 20] [] [], some (14, false)⟩,
    ⟨some 22, .call 202 [.t 21] [] [], some (14, false)⟩,
    ⟨some 23, .bin .neq (.t 17) (.t 22), some (14, false)⟩,
    ⟨some 24, .pick (.t 14) (.k (.bool true)) (.t 23), none⟩] [[], [0], [0, 1], [0, 1, 2], [0, 1, 2, 3], [0, 1, 2, 3, 4], [0, 1, 2, 3, 4, 5], [0, 1, 2, 3, 4, 5, 6], [0, 1, 2, 3, 4, 5, 6], [0, 1, 2, 3, 4, 5, 6, 7, 8], [0, 1, 2, 3, 4, 5, 6], [0, 1, 2, 3, 4, 5, 6], [0, 1, 2, 3, 4, 5, 6, 10, 11], [0, 1, 2, 3, 4, 5, 6, 10, 11, 12], [0, 1, 2, 3, 4, 5, 6, 10, 11, 12, 13], [0, 1, 2, 3, 4, 5, 6, 7, 8, 9, 10, 11, 12, 13, 14], [0, 1, 2, 3, 4, 5, 6, 7, 8, 9, 10, 11, 12, 13, 14, 15]] [0, 4, 24] [])
  (.cond (.t 24) (.seq (.reg [⟨some 2, .mv (.k (.str ⟨#[]⟩)), none⟩,
    ⟨some 3, .mv (.k (.bool false)), none⟩] [2, 3] [])
  (.ret)) (.skip)))
  (.seq (.reg [⟨some 25, .mv (.t 0), none⟩,
    ⟨some 26, .mv (.t 4), none⟩,
    ⟨some 27, .sstr (.t 25) none (some (.t 26)), none⟩,
    ⟨some 2, .mv (.t 27), none⟩,
    ⟨some 3, .mv (.k (.bool true)), none⟩] [2, 3] [])
  (.ret))))
def spec_Unsealed.m : Fn := { np := 1, body := spec_Unsealed.b, res := [.tmp 2, .tmp 3] }
def spec_Unsealed.k (M : Nat → Option Body) : Prop := M 167 = some (.code spec_Unsealed.m) ∧ spec_SumOf.k M ∧ spec_l02Four.k M
def impl_fourAt.b : C := .seq (.reg [⟨some 4, .mv (.k (.int .i64 0)), none⟩] [0, 1] [])
  (.seq (.regd [⟨some 5, .mv (.t 0), none⟩,
    ⟨some 6, .mv (.t 1), none⟩,
    ⟨some 7, .idx (.t 5) (.t 6), none⟩,
    ⟨some 8, .i2i .i64 (.t 7), none⟩,
    ⟨some 9, .bin .shl (.t 8) (.k (.int .u64 24)), none⟩,
    ⟨some 10, .mv (.t 0), none⟩,
    ⟨some 11, .mv (.t 1), none⟩,
    ⟨some 12, .bin .add (.t 11) (.k (.int .i64 1)), none⟩,
    ⟨some 13, .idx (.t 10) (.t 12), none⟩,
    ⟨some 14, .i2i .i64 (.t 13), none⟩,
    ⟨some 15, .bin .shl (.t 14) (.k (.int .u64 16)), none⟩,
    ⟨some 16, .bin .or (.t 9) (.t 15), none⟩,
    ⟨some 17, .mv (.t 0), none⟩,
    ⟨some 18, .mv (.t 1), none⟩,
    ⟨some 19, .bin .add (.t 18) (.k (.int .i64 2)), none⟩,
    ⟨some 20, .idx (.t 17) (.t 19), none⟩,
    ⟨some 21, .i2i .i64 (.t 20), none⟩,
    ⟨some 22, .bin .shl (.t 21) (.k (.int .u64 8)), none⟩,
    ⟨some 23, .bin .or (.t 16) (.t 22), none⟩,
    ⟨some 24, .mv (.t 0), none⟩,
    ⟨some 25, .mv (.t 1), none⟩,
    ⟨some 26, .bin .add (.t 25) (.k (.int .i64 3)), none⟩,
    ⟨some 27, .idx (.t 24) (.t 26), none⟩,
    ⟨some 28, .i2i .i64 (.t 27), none⟩,
    ⟨some 29, .bin .or (.t 23) (.t 28), none⟩,
    ⟨some 4, .mv (.t 29), none⟩] [[], [], [0, 1], [0, 1, 2], [0, 1, 2, 3], [], [], [6], [5, 6, 7], [5, 6, 7, 8], [5, 6, 7, 8, 9], [0, 1, 2, 3, 4, 5, 6, 7, 8, 9, 10], [], [], [13], [12, 13, 14], [12, 13, 14, 15], [12, 13, 14, 15, 16], [0, 1, 2, 3, 4, 5, 6, 7, 8, 9, 10, 11, 12, 13, 14, 15, 16, 17], [], [], [20], [19, 20, 21], [19, 20, 21, 22], [0, 1, 2, 3, 4, 5, 6, 7, 8, 9, 10, 11, 12, 13, 14, 15, 16, 17, 18, 19, 20, 21, 22, 23], [0, 1, 2, 3, 4, 5, 6, 7, 8, 9, 10, 11, 12, 13, 14, 15, 16, 17, 18, 19, 20, 21, 22, 23, 24]] [4] [])
  (.ret))
def impl_fourAt.m : Fn := { np := 2, body := impl_fourAt.b, res := [.tmp 4] }
def impl_fourAt.k (M : Nat → Option Body) : Prop := M 236 = some (.code impl_fourAt.m)
def impl_Unsealed.b : C := .seq (.reg [⟨some 2, .mv (.k (.str ⟨#[]⟩)), none⟩,
    ⟨some 3, .mv (.k (.bool false)), none⟩] [0] [])
  (.seq (.reg [⟨some 5, .mv (.t 0), none⟩,
    ⟨some 6, .slen (.t 5), none⟩,
    ⟨some 7, .bin .sub (.t 6) (.k (.int .i64 4)), none⟩,
    ⟨some 4, .mv (.t 7), none⟩] [0, 4] [])
  (.seq (.seq (.reg [⟨some 8, .mv (.t 4), none⟩,
    ⟨some 9, .call 101 [.t 8, .k (.int .i64 0), .k (.int .i64 20000)] [] [], none⟩,
    ⟨some 10, .not (.t 9), none⟩,
    ⟨some 11, .mv (.t 10), none⟩,
    ⟨some 12, .mv (.t 0), some (11, false)⟩,
    ⟨some 13, .mv (.t 4), some (11, false)⟩,
    ⟨some 14, .sstr (.t 12) none (some (.t 13)), some (11, false)⟩,
    ⟨some 15, .call 203 [.t 14] [] [], some (11, false)⟩,
    ⟨some 16, .i2i .i64 (.t 15), some (11, false)⟩,
    ⟨some 17, .mv (.t 0), some (11, false)⟩,
    ⟨some 18, .mv (.t 4), some (11, false)⟩,
    ⟨some 19, .call 236 [.t 17, .t 18] [] [], some (11, false)⟩,
    ⟨some 20, .bin .neq (.t 16) (.t 19), some (11, false)⟩,
    ⟨some 21, .pick (.t 11) (.k (.bool true)) (.t 20), none⟩] [0, 4, 21] [])
  (.cond (.t 21) (.seq (.reg [⟨some 2, .mv (.k (.str ⟨#[]⟩)), none⟩,
    ⟨some 3, .mv (.k (.bool false)), none⟩] [2, 3] [])
  (.ret)) (.skip)))
  (.seq (.reg [⟨some 22, .mv (.t 0), none⟩,
    ⟨some 23, .mv (.t 4), none⟩,
    ⟨some 24, .sstr (.t 22) none (some (.t 23)), none⟩,
    ⟨some 2, .mv (.t 24), none⟩,
    ⟨some 3, .mv (.k (.bool true)), none⟩] [2, 3] [])
  (.ret))))
def impl_Unsealed.m : Fn := { np := 1, body := impl_Unsealed.b, res := [.tmp 2, .tmp 3] }
def impl_Unsealed.k (M : Nat → Option Body) : Prop := M 168 = some (.code impl_Unsealed.m) ∧ impl_within.k M ∧ impl_SumOf.k M ∧ impl_fourAt.k M
end Mx

/-
  Sums over bytes, four bytes of a number; what Sealed answers.
-/
namespace Mx
open Go
variable {M : Nat → Option Body}
abbrev U32 (n : Int) : T := .int .u32 n

/-- one bit more -/
def half (x : Int) : Int := if x % 2 = 1 then xorI .u32 (x / 2) 3558460437 else x / 2
def halfN : Nat → Int → Int
  | 0, x => x
  | n + 1, x => halfN n (half x)
def sumByte (x : Int) (b : UInt8) : Int := halfN 8 (xorI .u32 x b.toNat)
def sumMore (x : Int) (l : List UInt8) : Int := l.foldl sumByte x
def sumOf (l : List UInt8) : Int := sumMore 4294967295 l
def in32 (x : Int) : Prop := 0 ≤ x ∧ x < 4294967296
theorem xor_in (x y : Int) : in32 (xorI .u32 x y) := by
  unfold xorI in32; rw [wrap_u32]; omega
theorem half_in {x : Int} (h : in32 x) : in32 (half x) := by
  unfold half; split
  · exact xor_in _ _
  · unfold in32 at *; omega
theorem halfN_in : ∀ (n : Nat) {x : Int}, in32 x → in32 (halfN n x)
  | 0, _, h => h
  | n + 1, _, h => halfN_in n (half_in h)
theorem sumMore_in : ∀ (l : List UInt8) {x : Int}, in32 x → in32 (sumMore x l)
  | [], _, h => h
  | b :: l, x, h => by
    show in32 (sumMore (sumByte x b) l)
    exact sumMore_in l (halfN_in 8 (xor_in _ _))
theorem sumOf_in (l : List UInt8) : in32 (sumOf l) := sumMore_in l ⟨by decide, by decide⟩

/-! ## the inner loops -/
def spH (l : List UInt8) (j : Nat) (s : Nat × Int) (x : Nat) : St := { t := [(0, .c (U32 s.2)), (1, .c (S l)), (5, .c (I j)), (6, .c (I s.1))], o := [], n := x }
theorem tmod2 {x : Int} (h : 0 ≤ x) : x.tmod 2 = x % 2 := Int.tmod_eq_emod_of_nonneg h
theorem tdiv2 {x : Int} (h : 0 ≤ x) : x.tdiv 2 = x / 2 := Int.tdiv_eq_ediv_of_nonneg h
theorem spec_SumMore.inner (cf : CallF) (k : Nat) (l : List UInt8) (j : Nat) (x0 : Int) (h0 : in32 x0) : ∀ m, 8 < m → ∃ g : Nat → Nat, ∀ x, loopN (exC cf k spec_SumMore.l1) m (spH l j (0, x0) x) =
    some (.exit 2, { t := [(0, .c (U32 (halfN 8 x0))), (1, .c (S l)), (5, .c (I j)), (6, .c (I 8)), (21, .c (.bool false))], o := [], n := g x }) := by
  intro m hm
  exact loop_all (f := exC cf k spec_SumMore.l1) (spH l j) (fun s => s.1 ≤ 8 ∧ in32 s.2) (fun s => 8 - s.1) (fun s => halfN (8 - s.1) s.2)
    (fun q m => (.exit 2, { t := [(0, .c (U32 q)), (1, .c (S l)), (5, .c (I j)), (6, .c (I 8)), (21, .c (.bool false))], o := [], n := m }))
    (by
      rintro ⟨i, y⟩ x ⟨h1, h2⟩
      simp only at h1 h2
      by_cases hlt : i < 8
      · have e5 : IntKind.i64.wrap ((i : Int) + 1) = (i : Int) + 1 := wrap_i64 (by omega) (by omega)
        have e0 : (i : Int) < 8 := by omega
        have e1 := tmod2 h2.1
        have e2 := tdiv2 h2.1
        have e3 : IntKind.u32.wrap (y / 2) = y / 2 := by rw [wrap_u32]; have := h2.2; have := h2.1; omega
        have hd : 8 - i = (8 - (i + 1)) + 1 := by omega
        left
        obtain ⟨z, hz⟩ : ∃ z, exC cf k spec_SumMore.l1 (spH l j (i, y) x) = some (.normal, spH l j (i + 1, half y) z) := by
          by_cases c : y % 2 = 1
          · simp [spH, spec_SumMore.l1, e0, e5, e1, e2, e3, c, half]
          · simp [spH, spec_SumMore.l1, e0, e5, e1, e2, e3, c, half]
        exact ⟨(i + 1, half y), z, hz, ⟨hlt, half_in h2⟩, by simp only; omega, by simp only [hd]; rfl⟩
      · have : i = 8 := by omega
        subst this
        exact .inr ⟨x + 32, by simp [spH, spec_SumMore.l1, halfN], by simp⟩)
    m (0, x0) ⟨by simp, h0⟩ (by simp; omega)

theorem and1 {x : Int} (h : in32 x) : andI .u32 x 1 = x % 2 := by
  obtain ⟨n, rfl⟩ := Int.eq_ofNat_of_zero_le h.1
  have h2 : n < 4294967296 := by have := h.2; omega
  rw [andI_eq, wrap_u32]
  have e1 : ((n : Int) % ((2 ^ IntKind.u32.bits : Nat) : Int)).toNat = n := by
    show ((n : Int) % 4294967296).toNat = n
    omega
  have e2 : ((1 : Int) % ((2 ^ IntKind.u32.bits : Nat) : Int)).toNat = 1 := by decide
  rw [e1, e2, Nat.and_one_is_mod]; omega
def imH (l : List UInt8) (j : Nat) (s : Nat × Int) (x : Nat) : St := { t := [(0, .c (U32 s.2)), (1, .c (S l)), (5, .c (I j)), (19, .c (I s.1))], o := [], n := x }
theorem impl_SumMore.inner (cf : CallF) (k : Nat) (l : List UInt8) (j : Nat) (x0 : Int) (h0 : in32 x0) : ∀ m, 8 < m → ∃ g : Nat → Nat, ∀ x, loopN (exC cf k impl_SumMore.l1) m (imH l j (0, x0) x) =
    some (.exit 2, { t := [(0, .c (U32 (halfN 8 x0))), (1, .c (S l)), (5, .c (I j)), (19, .c (I 8)), (20, .c (.bool false))], o := [], n := g x }) := by
  intro m hm
  exact loop_all (f := exC cf k impl_SumMore.l1) (imH l j) (fun s => s.1 ≤ 8 ∧ in32 s.2) (fun s => 8 - s.1) (fun s => halfN (8 - s.1) s.2)
    (fun q m => (.exit 2, { t := [(0, .c (U32 q)), (1, .c (S l)), (5, .c (I j)), (19, .c (I 8)), (20, .c (.bool false))], o := [], n := m }))
    (by
      rintro ⟨i, y⟩ x ⟨h1, h2⟩
      simp only at h1 h2
      by_cases hlt : i < 8
      · have e5 : IntKind.i64.wrap ((i : Int) + 1) = (i : Int) + 1 := wrap_i64 (by omega) (by omega)
        have e0 : (i : Int) < 8 := by omega
        have e1 := and1 h2
        have e2 : y.fdiv 2 = y / 2 := Int.fdiv_eq_ediv_of_nonneg _ (by omega)
        have hd : 8 - i = (8 - (i + 1)) + 1 := by omega
        left
        obtain ⟨z, hz⟩ : ∃ z, exC cf k impl_SumMore.l1 (imH l j (i, y) x) = some (.normal, imH l j (i + 1, half y) z) := by
          by_cases c : y % 2 = 1
          · simp [imH, impl_SumMore.l1, e0, e5, e1, e2, c, half, IntKind.bits]
          · simp [imH, impl_SumMore.l1, e0, e5, e1, e2, c, half, IntKind.bits]
        exact ⟨(i + 1, half y), z, hz, ⟨hlt, half_in h2⟩, by simp only; omega, by simp only [hd]; rfl⟩
      · have : i = 8 := by omega
        subst this
        exact .inr ⟨x + 16, by simp [imH, impl_SumMore.l1, halfN], by simp⟩)
    m (0, x0) ⟨by simp, h0⟩ (by simp; omega)

/-! ## the sums -/
theorem u8_u32 (b : UInt8) : IntKind.u32.wrap (b.toNat : Int) = b.toNat := by
  rw [wrap_u32]; have := b.toNat_lt; omega
def spSum (l : List UInt8) (s : Nat × Int) (x : Nat) : St := { t := [(0, .c (U32 s.2)), (1, .c (S l)), (5, .c (I s.1))], o := [], n := x }
theorem spec_SumMore.says (h : spec_SumMore.k M) (l : List UInt8) (hl : l.length ≤ 4611686018427387904) (x0 : Int) (h0 : in32 x0) : run M 248 [.c (U32 x0), .c (S l)] [] = some (.c (U32 (sumMore x0 l)), []) := by
  refine run_code (b := spec_SumMore.m) h ⟨l.length + 9, ?_⟩
  obtain ⟨g, hr⟩ := loop_all (f := exC (run M) (l.length + 9) spec_SumMore.l0) (spSum l) (fun s => s.1 ≤ l.length ∧ in32 s.2) (fun s => l.length - s.1) (fun s => sumMore s.2 (l.drop s.1))
    (fun q m => (.exit 0, { t := [(0, .c (U32 q)), (1, .c (S l)), (5, .c (I l.length)), (11, .c (.bool false))], o := [], n := m }))
    (by
      rintro ⟨i, y⟩ x ⟨h1, h2⟩
      simp only at h1 h2
      by_cases hlt : i < l.length
      · have e5 : IntKind.i64.wrap ((i : Int) + 1) = (i : Int) + 1 := wrap_i64 (by omega) (by omega)
        have e6 := u8_u32 l[i]
        obtain ⟨g1, hg⟩ := spec_SumMore.inner (run M) (l.length + 9) l i (xorI .u32 y l[i].toNat) (xor_in _ _) (l.length + 9) (by omega)
        simp [spH] at hg
        left
        obtain ⟨z, hz⟩ : ∃ z, exC (run M) (l.length + 9) spec_SumMore.l0 (spSum l (i, y) x) = some (.normal, spSum l (i + 1, sumByte y l[i]) z) := by
          simp [spSum, spec_SumMore.l0, hlt, bs_get, e5, e6, hg, sumByte]
        refine ⟨(i + 1, sumByte y l[i]), z, hz, ⟨hlt, halfN_in 8 (xor_in _ _)⟩, by simp only; omega, ?_⟩
        simp only [List.drop_eq_getElem_cons hlt]; rfl
      · have : i = l.length := by omega
        subst this
        exact .inr ⟨x + 64, by simp [spSum, spec_SumMore.l0, sumMore], by simp⟩)
    (l.length + 9) (0, x0) ⟨Nat.zero_le _, h0⟩ (by simp)
  simp [spSum] at hr
  simp [exB, spec_SumMore.m, spec_SumMore.b, List.range_succ, hr]
theorem impl_SumMore.says (h : impl_SumMore.k M) (l : List UInt8) (hl : l.length ≤ 4611686018427387904) (x0 : Int) (h0 : in32 x0) : run M 249 [.c (U32 x0), .c (S l)] [] = some (.c (U32 (sumMore x0 l)), []) := by
  refine run_code (b := impl_SumMore.m) h ⟨l.length + 9, ?_⟩
  obtain ⟨g, hr⟩ := loop_all (f := exC (run M) (l.length + 9) impl_SumMore.l0) (spSum l) (fun s => s.1 ≤ l.length ∧ in32 s.2) (fun s => l.length - s.1) (fun s => sumMore s.2 (l.drop s.1))
    (fun q m => (.exit 0, { t := [(0, .c (U32 q)), (1, .c (S l)), (5, .c (I l.length)), (10, .c (.bool false))], o := [], n := m }))
    (by
      rintro ⟨i, y⟩ x ⟨h1, h2⟩
      simp only at h1 h2
      by_cases hlt : i < l.length
      · have e5 : IntKind.i64.wrap ((i : Int) + 1) = (i : Int) + 1 := wrap_i64 (by omega) (by omega)
        have e6 := u8_u32 l[i]
        obtain ⟨g1, hg⟩ := impl_SumMore.inner (run M) (l.length + 9) l i (xorI .u32 y l[i].toNat) (xor_in _ _) (l.length + 9) (by omega)
        simp [imH] at hg
        left
        obtain ⟨z, hz⟩ : ∃ z, exC (run M) (l.length + 9) impl_SumMore.l0 (spSum l (i, y) x) = some (.normal, spSum l (i + 1, sumByte y l[i]) z) := by
          simp [spSum, impl_SumMore.l0, hlt, bs_get, e5, e6, hg, sumByte]
        refine ⟨(i + 1, sumByte y l[i]), z, hz, ⟨hlt, halfN_in 8 (xor_in _ _)⟩, by simp only; omega, ?_⟩
        simp only [List.drop_eq_getElem_cons hlt]; rfl
      · have : i = l.length := by omega
        subst this
        exact .inr ⟨x + 64, by simp [spSum, impl_SumMore.l0, sumMore], by simp⟩)
    (l.length + 9) (0, x0) ⟨Nat.zero_le _, h0⟩ (by simp)
  simp [spSum] at hr
  simp [exB, impl_SumMore.m, impl_SumMore.b, List.range_succ, hr]
theorem spec_SumOf.says (h : spec_SumOf.k M) (l : List UInt8) (hl : l.length ≤ 4611686018427387904) : run M 201 [.c (S l)] [] = some (.c (U32 (sumOf l)), []) := by
  have h1 := spec_SumMore.says h.2 l hl 4294967295 ⟨by decide, by decide⟩
  refine run_code (b := spec_SumOf.m) h.1 ⟨0, ?_⟩
  simp [exB, spec_SumOf.m, spec_SumOf.b, List.range_succ, h1, sumOf]
theorem impl_SumOf.says (h : impl_SumOf.k M) (l : List UInt8) (hl : l.length ≤ 4611686018427387904) : run M 203 [.c (S l)] [] = some (.c (U32 (sumOf l)), []) := by
  have h1 := impl_SumMore.says h.2 l hl 4294967295 ⟨by decide, by decide⟩
  refine run_code (b := impl_SumOf.m) h.1 ⟨0, ?_⟩
  simp [exB, impl_SumOf.m, impl_SumOf.b, List.range_succ, h1, sumOf]

/-! ## four bytes -/
def byteOf (x : Int) : UInt8 := UInt8.ofNat (x % 256).toNat
def four (x : Int) : List UInt8 := [byteOf (x / 16777216), byteOf (x / 65536), byteOf (x / 256), byteOf x]
theorem four_len (x : Int) : (four x).length = 4 := rfl
theorem spec_l02Four.says (h : spec_l02Four.k M) (x : Int) : run M 202 [.c (U32 x)] [] = some (.c (S (four x)), []) := by
  refine run_code (b := spec_l02Four.m) h ⟨0, ?_⟩
  have e1 : x.fdiv 16777216 = x / 16777216 := Int.fdiv_eq_ediv_of_nonneg _ (by omega)
  have e2 : x.fdiv 65536 = x / 65536 := Int.fdiv_eq_ediv_of_nonneg _ (by omega)
  have e3 : x.fdiv 256 = x / 256 := Int.fdiv_eq_ediv_of_nonneg _ (by omega)
  simp [exB, spec_l02Four.m, spec_l02Four.b, List.range_succ, IntKind.bits, e1, e2, e3, rowsBytes, four, byteOf, wrap_u8]
theorem impl_four.says (h : impl_four.k M) (x : Int) : run M 204 [.c (I x)] [] = some (.c (S (four x)), []) := by
  refine run_code (b := impl_four.m) h ⟨0, ?_⟩
  have e1 : x.fdiv 16777216 = x / 16777216 := Int.fdiv_eq_ediv_of_nonneg _ (by omega)
  have e2 : x.fdiv 65536 = x / 65536 := Int.fdiv_eq_ediv_of_nonneg _ (by omega)
  have e3 : x.fdiv 256 = x / 256 := Int.fdiv_eq_ediv_of_nonneg _ (by omega)
  simp [exB, impl_four.m, impl_four.b, List.range_succ, IntKind.bits, e1, e2, e3, rowsBytes, four, byteOf, wrap_u8]

def sealed (l : List UInt8) : List UInt8 × Bool := if 20000 < l.length then ([], false) else (l ++ four (sumOf l), true)
theorem spec_Sealed.says (h : spec_Sealed.k M) (l : List UInt8) (hl : l.length ≤ 4611686018427387904) : run M 100 [.c (S l)] [] = some (.tup [.c (S (sealed l).1), .c (.bool (sealed l).2)], []) := by
  have h1 := spec_SumOf.says h.2.1 l hl
  have h2 := spec_l02Four.says h.2.2 (sumOf l)
  refine run_code (b := spec_Sealed.m) h.1 ⟨0, ?_⟩
  by_cases c : 20000 < l.length
  · have c' : 20000 < (l.length : Int) := by omega
    simp [exB, spec_Sealed.m, spec_Sealed.b, List.range_succ, sealed, c, c']
  · have c' : ¬ 20000 < (l.length : Int) := by omega
    have e := four_len (sumOf l)
    simp (disch := (first | omega | (simp; done) | (simp; omega))) [exB, spec_Sealed.m, spec_Sealed.b, List.range_succ, sealed, c, c', h1, h2, str_add, e]
theorem impl_Sealed.says (h : impl_Sealed.k M) (l : List UInt8) (hl : l.length ≤ 4611686018427387904) : run M 103 [.c (S l)] [] = some (.tup [.c (S (sealed l).1), .c (.bool (sealed l).2)], []) := by
  have h1 := impl_SumOf.says h.2.1 l hl
  have h2 := impl_four.says h.2.2 (sumOf l)
  refine run_code (b := impl_Sealed.m) h.1 ⟨0, ?_⟩
  by_cases c : 20000 < l.length
  · have c' : 20000 < (l.length : Int) := by omega
    simp [exB, impl_Sealed.m, impl_Sealed.b, List.range_succ, sealed, c, c']
  · have c' : ¬ 20000 < (l.length : Int) := by omega
    have e := four_len (sumOf l)
    have hin := sumOf_in l
    have e2 : IntKind.i64.wrap (sumOf l) = sumOf l := wrap_i64 (by have := hin.1; omega) (by have := hin.2; omega)
    simp (disch := (first | omega | (simp; done) | (simp; omega))) [exB, impl_Sealed.m, impl_Sealed.b, List.range_succ, sealed, c, c', h1, h2, str_add, e, e2]
end Mx

/-
  Small codes: spec.l01Var, impl.VarText, impl.ShortText, spec.ReadVar, impl.ReadVar, spec.ReadShort, impl.ReadShort, impl.short, impl.vars.
-/
namespace Mx
open Go
def spec_l01Var.l0 : C := .seq (.seq (.reg [⟨some 5, .mv (.t 0), none⟩,
    ⟨some 6, .bin .gtr (.t 5) (.k (.int .i64 127)), none⟩] [0, 3, 6] [4, 13])
  (.cond (.t 6) (.skip) (.exit 0)))
  (.block 1 (.seq (.reg [⟨some 7, .mv (.t 3), none⟩,
    ⟨some 8, .mv (.t 0), none⟩,
    ⟨some 9, .bin .rem (.t 8) (.k (.int .i64 128)), none⟩,
    ⟨some 10, .bin .add (.t 9) (.k (.int .i64 128)), none⟩,
    ⟨some 11, .i2i .u8 (.t 10), none⟩,
    ⟨some 12, .bslice 1 1 [.int .u8 0] [(0, .t 11)], none⟩,
    ⟨some 13, .app 1 1 (.t 7) (.t 12), none⟩,
    ⟨some 3, .mv (.t 13), none⟩] [0, 3] [4, 13])
  (.reg [⟨some 14, .mv (.t 0), none⟩,
    ⟨some 15, .bin .quo (.t 14) (.k (.int .i64 128)), none⟩,
    ⟨some 0, .mv (.t 15), none⟩] [0, 3] [4, 13])))
def spec_l01Var.b : C := .seq (.reg [⟨some 2, .mv (.k (.str ⟨#[]⟩)), none⟩] [0] [])
  (.seq (.reg [⟨some 4, .bslice 1 0 [.int .u8 0] [], none⟩,
    ⟨some 3, .mv (.t 4), none⟩] [0, 3] [4, 13])
  (.seq (.block 0 (.loop spec_l01Var.l0))
  (.seq (.reg [⟨some 16, .mv (.t 3), none⟩,
    ⟨some 17, .mv (.t 0), none⟩,
    ⟨some 18, .i2i .u8 (.t 17), none⟩,
    ⟨some 19, .bslice 1 1 [.int .u8 0] [(0, .t 18)], none⟩,
    ⟨some 20, .app 1 1 (.t 16) (.t 19), none⟩,
    ⟨some 21, .b2s (.t 20), none⟩,
    ⟨some 2, .mv (.t 21), none⟩] [2] [])
  (.ret))))
def spec_l01Var.m : Fn := { np := 1, body := spec_l01Var.b, res := [.tmp 2] }
def spec_l01Var.k (M : Nat → Option Body) : Prop := M 99 = some (.code spec_l01Var.m)
def impl_VarText.l0 : C := .seq (.seq (.reg [⟨some 9, .mv (.t 0), none⟩,
    ⟨some 10, .bin .gtr (.t 9) (.k (.int .i64 127)), none⟩] [0, 4, 10] [8, 17])
  (.cond (.t 10) (.skip) (.exit 0)))
  (.block 1 (.seq (.reg [⟨some 11, .mv (.t 4), none⟩,
    ⟨some 12, .mv (.t 0), none⟩,
    ⟨some 13, .bin .and (.t 12) (.k (.int .i64 127)), none⟩,
    ⟨some 14, .bin .or (.t 13) (.k (.int .i64 128)), none⟩,
    ⟨some 15, .i2i .u8 (.t 14), none⟩,
    ⟨some 16, .bslice 1 1 [.int .u8 0] [(0, .t 15)], none⟩,
    ⟨some 17, .app 1 1 (.t 11) (.t 16), none⟩,
    ⟨some 4, .mv (.t 17), none⟩] [0, 4] [8, 17])
  (.reg [⟨some 18, .mv (.t 0), none⟩,
    ⟨some 19, .bin .shr (.t 18) (.k (.int .u64 7)), none⟩,
    ⟨some 0, .mv (.t 19), none⟩] [0, 4] [8, 17])))
def impl_VarText.b : C := .seq (.reg [⟨some 2, .mv (.k (.str ⟨#[]⟩)), none⟩,
    ⟨some 3, .mv (.k (.bool false)), none⟩] [0] [])
  (.seq (.seq (.reg [⟨some 5, .mv (.t 0), none⟩,
    ⟨some 6, .call 101 [.t 5, .k (.int .i64 0), .k (.int .i64 1000000000)] [] [], none⟩,
    ⟨some 7, .not (.t 6), none⟩] [0, 7] [])
  (.cond (.t 7) (.seq (.reg [⟨some 2, .mv (.k (.str ⟨#[]⟩)), none⟩,
    ⟨some 3, .mv (.k (.bool false)), none⟩] [2, 3] [])
  (.ret)) (.skip)))
  (.seq (.reg [⟨some 8, .bslice 1 0 [.int .u8 0] [], none⟩,
    ⟨some 4, .mv (.t 8), none⟩] [0, 4] [8, 17])
  (.seq (.block 0 (.loop impl_VarText.l0))
  (.seq (.reg [⟨some 20, .mv (.t 4), none⟩,
    ⟨some 21, .mv (.t 0), none⟩,
    ⟨some 22, .i2i .u8 (.t 21), none⟩,
    ⟨some 23, .bslice 1 1 [.int .u8 0] [(0, .t 22)], none⟩,
    ⟨some 24, .app 1 1 (.t 20) (.t 23), none⟩,
    ⟨some 25, .b2s (.t 24), none⟩,
    ⟨some 2, .mv (.t 25), none⟩,
    ⟨some 3, .mv (.k (.bool true)), none⟩] [2, 3] [])
  (.ret)))))
def impl_VarText.m : Fn := { np := 1, body := impl_VarText.b, res := [.tmp 2, .tmp 3] }
def impl_VarText.k (M : Nat → Option Body) : Prop := M 230 = some (.code impl_VarText.m) ∧ impl_within.k M
def impl_ShortText.b : C := .seq (.reg [⟨some 2, .mv (.k (.str ⟨#[]⟩)), none⟩,
    ⟨some 3, .mv (.k (.bool false)), none⟩] [0] [])
  (.seq (.seq (.reg [⟨some 6, .mv (.t 0), none⟩,
    ⟨some 7, .slen (.t 6), none⟩,
    ⟨some 8, .bin .gtr (.t 7) (.k (.int .i64 20000)), none⟩] [0, 8] [])
  (.cond (.t 8) (.seq (.reg [⟨some 2, .mv (.k (.str ⟨#[]⟩)), none⟩,
    ⟨some 3, .mv (.k (.bool false)), none⟩] [2, 3] [])
  (.ret)) (.skip)))
  (.seq (.reg [⟨some 10, .mv (.t 0), none⟩,
    ⟨some 11, .slen (.t 10), none⟩,
    ⟨some 12, .call 230 [.t 11] [] [], none⟩,
    ⟨some 9, .mv (.t 12), none⟩,
    ⟨some 13, .ext 0 (.t 9), none⟩,
    ⟨some 14, .ext 1 (.t 9), none⟩,
    ⟨some 4, .mv (.t 13), none⟩,
    ⟨some 5, .mv (.t 14), none⟩] [0, 4] [])
  (.seq (.reg [⟨some 15, .mv (.t 4), none⟩,
    ⟨some 16, .mv (.t 0), none⟩,
    ⟨some 17, .bin .add (.t 15) (.t 16), none⟩,
    ⟨some 2, .mv (.t 17), none⟩,
    ⟨some 3, .mv (.k (.bool true)), none⟩] [2, 3] [])
  (.ret))))
def impl_ShortText.m : Fn := { np := 1, body := impl_ShortText.b, res := [.tmp 2, .tmp 3] }
def impl_ShortText.k (M : Nat → Option Body) : Prop := M 205 = some (.code impl_ShortText.m) ∧ impl_VarText.k M
def spec_ReadVar.l0 : C := .seq (.seq (.reg [⟨some 16, .mv (.t 9), none⟩,
    ⟨some 17, .mv (.t 0), none⟩,
    ⟨some 18, .slen (.t 17), none⟩,
    ⟨some 19, .bin .lss (.t 16) (.t 18), none⟩,
    ⟨some 20, .mv (.t 19), none⟩,
    ⟨some 21, .mv (.t 9), some (20, true)⟩,
    ⟨some 22, .mv (.t 1), some (20, true)⟩,
    ⟨some 23, .bin .add (.t 22) (.k (.int .i64 5)), some (20, true)⟩,
    ⟨some 24, .bin .lss (.t 21) (.t 23), some (20, true)⟩,
    ⟨some 25, .pick (.t 20) (.t 24) (.k (.bool false)), none⟩] [0, 1, 7, 8, 9, 25] [])
  (.cond (.t 25) (.skip) (.exit 0)))
  (.seq (.block 1 (.seq (.reg [⟨some 28, .mv (.t 7), none⟩,
    ⟨some 29, .mv (.t 0), none⟩,
    ⟨some 30, .mv (.t 9), none⟩,
    ⟨some 31, .idx (.t 29) (.t 30), none⟩,
    ⟨some 32, .i2i .i64 (.t 31), none⟩,
    ⟨some 33, .bin .rem (.t 32) (.k (.int .i64 128)), none⟩,
    ⟨some 34, .mv (.t 8), none⟩,
    ⟨some 35, .bin .mul (.t 33) (.t 34), none⟩,
    ⟨some 36, .bin .add (.t 28) (.t 35), none⟩,
    ⟨some 7, .mv (.t 36), none⟩] [0, 1, 7, 8, 9] [])
  (.seq (.reg [⟨some 37, .mv (.t 8), none⟩,
    ⟨some 38, .bin .mul (.t 37) (.k (.int .i64 128)), none⟩,
    ⟨some 8, .mv (.t 38), none⟩] [0, 1, 7, 8, 9] [])
  (.seq (.reg [⟨some 39, .mv (.t 0), none⟩,
    ⟨some 40, .mv (.t 9), none⟩,
    ⟨some 41, .idx (.t 39) (.t 40), none⟩,
    ⟨some 42, .bin .lss (.t 41) (.k (.int .u8 128)), none⟩] [0, 1, 7, 8, 9, 42] [])
  (.cond (.t 42) (.seq (.seq (.regd [⟨some 43, .mv (.t 7), none⟩,
    ⟨some 44, .bin .gtr (.t 43) (.k (.int .i64 1000000000)), none⟩,
    ⟨some 45, .mv (.t 44), none⟩,
    ⟨some 46, .mv (.t 7), some (45, false)⟩,
    ⟨some 47, .call 99 [.t 46] [] [], some (45, false)⟩,
    ⟨some 48, .mv (.t 0), some (45, false)⟩,
    ⟨some 49, .mv (.t 1), some (45, false)⟩,
    ⟨some 50, .mv (.t 9), some (45, false)⟩,
    ⟨some 51, .bin .add (.t 50) (.k (.int .i64 1)), some (45, false)⟩,
    ⟨some 52, .sstr (.t 48) (some (.t 49)) (some (.t 51)), some (45, false)⟩,
    ⟨some 53, .bin .neq (.t 47) (.t 52), some (45, false)⟩,
    ⟨some 54, .pick (.t 45) (.k (.bool true)) (.t 53), none⟩] [[], [0], [0, 1], [0, 1, 2], [0, 1, 2, 3], [0, 1, 2], [0, 1, 2], [0, 1, 2], [0, 1, 2, 7], [0, 1, 2, 5, 6, 7, 8], [0, 1, 2, 3, 4, 5, 6, 7, 8, 9], [0, 1, 2, 3, 4, 5, 6, 7, 8, 9, 10]] [7, 9, 54] [])
  (.cond (.t 54) (.seq (.reg [⟨some 4, .mv (.k (.int .i64 0)), none⟩,
    ⟨some 5, .mv (.k (.int .i64 0)), none⟩,
    ⟨some 6, .mv (.k (.bool false)), none⟩] [4, 5, 6] [])
  (.ret)) (.skip)))
  (.seq (.reg [⟨some 55, .mv (.t 7), none⟩,
    ⟨some 56, .mv (.t 9), none⟩,
    ⟨some 57, .bin .add (.t 56) (.k (.int .i64 1)), none⟩,
    ⟨some 4, .mv (.t 55), none⟩,
    ⟨some 5, .mv (.t 57), none⟩,
    ⟨some 6, .mv (.k (.bool true)), none⟩] [4, 5, 6] [])
  (.ret))) (.skip))))))
  (.reg [⟨some 26, .mv (.t 9), none⟩,
    ⟨some 27, .bin .add (.t 26) (.k (.int .i64 1)), none⟩,
    ⟨some 9, .mv (.t 27), none⟩] [0, 1, 7, 8, 9] []))
def spec_ReadVar.b : C := .seq (.reg [⟨some 4, .mv (.k (.int .i64 0)), none⟩,
    ⟨some 5, .mv (.k (.int .i64 0)), none⟩,
    ⟨some 6, .mv (.k (.bool false)), none⟩] [0, 1] [])
  (.seq (.seq (.reg [⟨some 10, .mv (.t 1), none⟩,
    ⟨some 11, .mv (.t 0), none⟩,
    ⟨some 12, .slen (.t 11), none⟩,
    ⟨some 13, .call 98 [.t 10, .k (.int .i64 0), .t 12] [] [], none⟩,
    ⟨some 14, .not (.t 13), none⟩] [0, 1, 14] [])
  (.cond (.t 14) (.seq (.reg [⟨some 4, .mv (.k (.int .i64 0)), none⟩,
    ⟨some 5, .mv (.k (.int .i64 0)), none⟩,
    ⟨some 6, .mv (.k (.bool false)), none⟩] [4, 5, 6] [])
  (.ret)) (.skip)))
  (.seq (.reg [⟨some 7, .mv (.k (.int .i64 0)), none⟩] [0, 1, 7] [])
  (.seq (.reg [⟨some 8, .mv (.k (.int .i64 1)), none⟩] [0, 1, 7, 8] [])
  (.seq (.seq (.reg [⟨some 15, .mv (.t 1), none⟩,
    ⟨some 9, .mv (.t 15), none⟩] [0, 1, 7, 8, 9] [])
  (.block 0 (.loop spec_ReadVar.l0)))
  (.seq (.reg [⟨some 4, .mv (.k (.int .i64 0)), none⟩,
    ⟨some 5, .mv (.k (.int .i64 0)), none⟩,
    ⟨some 6, .mv (.k (.bool false)), none⟩] [4, 5, 6] [])
  (.ret))))))
def spec_ReadVar.m : Fn := { np := 2, body := spec_ReadVar.b, res := [.tmp 4, .tmp 5, .tmp 6] }
def spec_ReadVar.k (M : Nat → Option Body) : Prop := M 221 = some (.code spec_ReadVar.m) ∧ spec_l01In.k M ∧ spec_l01Var.k M
def impl_ReadVar.l0 : C := .seq (.seq (.reg [⟨some 16, .mv (.t 8), none⟩,
    ⟨some 17, .bin .lss (.t 16) (.k (.int .i64 5)), none⟩,
    ⟨some 18, .mv (.t 17), none⟩,
    ⟨some 19, .mv (.t 1), some (18, true)⟩,
    ⟨some 20, .mv (.t 8), some (18, true)⟩,
    ⟨some 21, .bin .add (.t 19) (.t 20), some (18, true)⟩,
    ⟨some 22, .mv (.t 0), some (18, true)⟩,
    ⟨some 23, .slen (.t 22), some (18, true)⟩,
    ⟨some 24, .bin .lss (.t 21) (.t 23), some (18, true)⟩,
    ⟨some 25, .pick (.t 18) (.t 24) (.k (.bool false)), none⟩] [0, 1, 7, 8, 25] [])
  (.cond (.t 25) (.skip) (.exit 0)))
  (.seq (.block 1 (.seq (.reg [⟨some 28, .mv (.t 7), none⟩,
    ⟨some 29, .mv (.t 0), none⟩,
    ⟨some 30, .mv (.t 1), none⟩,
    ⟨some 31, .mv (.t 8), none⟩,
    ⟨some 32, .bin .add (.t 30) (.t 31), none⟩,
    ⟨some 33, .idx (.t 29) (.t 32), none⟩,
    ⟨some 34, .bin .and (.t 33) (.k (.int .u8 127)), none⟩,
    ⟨some 35, .i2i .i64 (.t 34), none⟩,
    ⟨some 36, .mv (.t 8), none⟩,
    ⟨some 37, .bin .mul (.k (.int .i64 7)) (.t 36), none⟩,
    ⟨some 38, .bin .shl (.t 35) (.t 37), none⟩,
    ⟨some 39, .bin .or (.t 28) (.t 38), none⟩,
    ⟨some 7, .mv (.t 39), none⟩] [0, 1, 7, 8] [])
  (.seq (.seq (.reg [⟨some 40, .mv (.t 0), none⟩,
    ⟨some 41, .mv (.t 1), none⟩,
    ⟨some 42, .mv (.t 8), none⟩,
    ⟨some 43, .bin .add (.t 41) (.t 42), none⟩,
    ⟨some 44, .idx (.t 40) (.t 43), none⟩,
    ⟨some 45, .bin .gtr (.t 44) (.k (.int .u8 127)), none⟩] [0, 1, 7, 8, 45] [])
  (.cond (.t 45) (.exit 1) (.skip)))
  (.seq (.seq (.reg [⟨some 47, .mv (.t 7), none⟩,
    ⟨some 48, .call 230 [.t 47] [] [], none⟩,
    ⟨some 46, .mv (.t 48), none⟩,
    ⟨some 49, .ext 0 (.t 46), none⟩,
    ⟨some 50, .ext 1 (.t 46), none⟩,
    ⟨some 9, .mv (.t 49), none⟩,
    ⟨some 10, .mv (.t 50), none⟩] [0, 1, 7, 8, 9, 10] [])
  (.seq (.reg [⟨some 51, .mv (.t 10), none⟩,
    ⟨some 52, .not (.t 51), none⟩,
    ⟨some 53, .mv (.t 52), none⟩,
    ⟨some 54, .mv (.t 9), some (53, false)⟩,
    ⟨some 55, .mv (.t 0), some (53, false)⟩,
    ⟨some 56, .mv (.t 1), some (53, false)⟩,
    ⟨some 57, .mv (.t 1), some (53, false)⟩,
    ⟨some 58, .mv (.t 8), some (53, false)⟩,
    ⟨some 59, .bin .add (.t 57) (.t 58), some (53, false)⟩,
    ⟨some 60, .bin .add (.t 59) (.k (.int .i64 1)), some (53, false)⟩,
    ⟨some 61, .sstr (.t 55) (some (.t 56)) (some (.t 60)), some (53, false)⟩,
    ⟨some 62, .bin .neq (.t 54) (.t 61), some (53, false)⟩,
    ⟨some 63, .pick (.t 53) (.k (.bool true)) (.t 62), none⟩] [1, 7, 8, 63] [])
  (.cond (.t 63) (.seq (.reg [⟨some 4, .mv (.k (.int .i64 0)), none⟩,
    ⟨some 5, .mv (.k (.int .i64 0)), none⟩,
    ⟨some 6, .mv (.k (.bool false)), none⟩] [4, 5, 6] [])
  (.ret)) (.skip))))
  (.seq (.reg [⟨some 64, .mv (.t 7), none⟩,
    ⟨some 65, .mv (.t 1), none⟩,
    ⟨some 66, .mv (.t 8), none⟩,
    ⟨some 67, .bin .add (.t 65) (.t 66), none⟩,
    ⟨some 68, .bin .add (.t 67) (.k (.int .i64 1)), none⟩,
    ⟨some 4, .mv (.t 64), none⟩,
    ⟨some 5, .mv (.t 68), none⟩,
    ⟨some 6, .mv (.k (.bool true)), none⟩] [4, 5, 6] [])
  (.ret))))))
  (.reg [⟨some 26, .mv (.t 8), none⟩,
    ⟨some 27, .bin .add (.t 26) (.k (.int .i64 1)), none⟩,
    ⟨some 8, .mv (.t 27), none⟩] [0, 1, 7, 8] []))
def impl_ReadVar.b : C := .seq (.reg [⟨some 4, .mv (.k (.int .i64 0)), none⟩,
    ⟨some 5, .mv (.k (.int .i64 0)), none⟩,
    ⟨some 6, .mv (.k (.bool false)), none⟩] [0, 1] [])
  (.seq (.seq (.reg [⟨some 11, .mv (.t 1), none⟩,
    ⟨some 12, .mv (.t 0), none⟩,
    ⟨some 13, .slen (.t 12), none⟩,
    ⟨some 14, .call 101 [.t 11, .k (.int .i64 0), .t 13] [] [], none⟩,
    ⟨some 15, .not (.t 14), none⟩] [0, 1, 15] [])
  (.cond (.t 15) (.seq (.reg [⟨some 4, .mv (.k (.int .i64 0)), none⟩,
    ⟨some 5, .mv (.k (.int .i64 0)), none⟩,
    ⟨some 6, .mv (.k (.bool false)), none⟩] [4, 5, 6] [])
  (.ret)) (.skip)))
  (.seq (.reg [⟨some 7, .mv (.k (.int .i64 0)), none⟩] [0, 1, 7] [])
  (.seq (.seq (.reg [⟨some 8, .mv (.k (.int .i64 0)), none⟩] [0, 1, 7, 8] [])
  (.block 0 (.loop impl_ReadVar.l0)))
  (.seq (.reg [⟨some 4, .mv (.k (.int .i64 0)), none⟩,
    ⟨some 5, .mv (.k (.int .i64 0)), none⟩,
    ⟨some 6, .mv (.k (.bool false)), none⟩] [4, 5, 6] [])
  (.ret)))))
def impl_ReadVar.m : Fn := { np := 2, body := impl_ReadVar.b, res := [.tmp 4, .tmp 5, .tmp 6] }
def impl_ReadVar.k (M : Nat → Option Body) : Prop := M 231 = some (.code impl_ReadVar.m) ∧ impl_within.k M ∧ impl_VarText.k M
def spec_ReadShort.b : C := .seq (.reg [⟨some 4, .mv (.k (.str ⟨#[]⟩)), none⟩,
    ⟨some 5, .mv (.k (.int .i64 0)), none⟩,
    ⟨some 6, .mv (.k (.bool false)), none⟩] [0, 1] [])
  (.seq (.reg [⟨some 11, .mv (.t 0), none⟩,
    ⟨some 12, .mv (.t 1), none⟩,
    ⟨some 13, .call 221 [.t 11, .t 12] [] [], none⟩,
    ⟨some 10, .mv (.t 13), none⟩,
    ⟨some 14, .ext 0 (.t 10), none⟩,
    ⟨some 15, .ext 1 (.t 10), none⟩,
    ⟨some 16, .ext 2 (.t 10), none⟩,
    ⟨some 7, .mv (.t 14), none⟩,
    ⟨some 8, .mv (.t 15), none⟩,
    ⟨some 9, .mv (.t 16), none⟩] [0, 7, 8, 9] [])
  (.seq (.seq (.reg [⟨some 17, .mv (.t 9), none⟩,
    ⟨some 18, .not (.t 17), none⟩,
    ⟨some 19, .mv (.t 18), none⟩,
    ⟨some 20, .mv (.t 7), some (19, false)⟩,
    ⟨some 21, .bin .gtr (.t 20) (.k (.int .i64 20000)), some (19, false)⟩,
    ⟨some 22, .pick (.t 19) (.k (.bool true)) (.t 21), none⟩,
    ⟨some 23, .mv (.t 22), none⟩,
    ⟨some 24, .mv (.t 7), some (23, false)⟩,
    ⟨some 25, .mv (.t 0), some (23, false)⟩,
    ⟨some 26, .slen (.t 25), some (23, false)⟩,
    ⟨some 27, .mv (.t 8), some (23, false)⟩,
    ⟨some 28, .bin .sub (.t 26) (.t 27), some (23, false)⟩,
    ⟨some 29, .bin .gtr (.t 24) (.t 28), some (23, false)⟩,
    ⟨some 30, .pick (.t 23) (.k (.bool true)) (.t 29), none⟩] [0, 7, 8, 30] [])
  (.cond (.t 30) (.seq (.reg [⟨some 4, .mv (.k (.str ⟨#[]⟩)), none⟩,
    ⟨some 5, .mv (.k (.int .i64 0)), none⟩,
    ⟨some 6, .mv (.k (.bool false)), none⟩] [4, 5, 6] [])
  (.ret)) (.skip)))
  (.seq (.reg [⟨some 31, .mv (.t 0), none⟩,
    ⟨some 32, .mv (.t 8), none⟩,
    ⟨some 33, .mv (.t 8), none⟩,
    ⟨some 34, .mv (.t 7), none⟩,
    ⟨some 35, .bin .add (.t 33) (.t 34), none⟩,
    ⟨some 36, .sstr (.t 31) (some (.t 32)) (some (.t 35)), none⟩,
    ⟨some 37, .mv (.t 8), none⟩,
    ⟨some 38, .mv (.t 7), none⟩,
    ⟨some 39, .bin .add (.t 37) (.t 38), none⟩,
    ⟨some 4, .mv (.t 36), none⟩,
    ⟨some 5, .mv (.t 39), none⟩,
    ⟨some 6, .mv (.k (.bool true)), none⟩] [4, 5, 6] [])
  (.ret))))
def spec_ReadShort.m : Fn := { np := 2, body := spec_ReadShort.b, res := [.tmp 4, .tmp 5, .tmp 6] }
def spec_ReadShort.k (M : Nat → Option Body) : Prop := M 206 = some (.code spec_ReadShort.m) ∧ spec_ReadVar.k M
def impl_ReadShort.b : C := .seq (.reg [⟨some 4, .mv (.k (.str ⟨#[]⟩)), none⟩,
    ⟨some 5, .mv (.k (.int .i64 0)), none⟩,
    ⟨some 6, .mv (.k (.bool false)), none⟩] [0, 1] [])
  (.seq (.reg [⟨some 11, .mv (.t 0), none⟩,
    ⟨some 12, .mv (.t 1), none⟩,
    ⟨some 13, .call 231 [.t 11, .t 12] [] [], none⟩,
    ⟨some 10, .mv (.t 13), none⟩,
    ⟨some 14, .ext 0 (.t 10), none⟩,
    ⟨some 15, .ext 1 (.t 10), none⟩,
    ⟨some 16, .ext 2 (.t 10), none⟩,
    ⟨some 7, .mv (.t 14), none⟩,
    ⟨some 8, .mv (.t 15), none⟩,
    ⟨some 9, .mv (.t 16), none⟩] [0, 7, 8, 9] [])
  (.seq (.seq (.reg [⟨some 17, .mv (.t 9), none⟩,
    ⟨some 18, .not (.t 17), none⟩,
    ⟨some 19, .mv (.t 18), none⟩,
    ⟨some 20, .mv (.t 7), some (19, false)⟩,
    ⟨some 21, .bin .gtr (.t 20) (.k (.int .i64 20000)), some (19, false)⟩,
    ⟨some 22, .pick (.t 19) (.k (.bool true)) (.t 21), none⟩,
    ⟨some 23, .mv (.t 22), none⟩,
    ⟨some 24, .mv (.t 7), some (23, false)⟩,
    ⟨some 25, .mv (.t 0), some (23, false)⟩,
    ⟨some 26, .slen (.t 25), some (23, false)⟩,
    ⟨some 27, .mv (.t 8), some (23, false)⟩,
    ⟨some 28, .bin .sub (.t 26) (.t 27), some (23, false)⟩,
    ⟨some 29, .bin .gtr (.t 24) (.t 28), some (23, false)⟩,
    ⟨some 30, .pick (.t 23) (.k (.bool true)) (.t 29), none⟩] [0, 7, 8, 30] [])
  (.cond (.t 30) (.seq (.reg [⟨some 4, .mv (.k (.str ⟨#[]⟩)), none⟩,
    ⟨some 5, .mv (.k (.int .i64 0)), none⟩,
    ⟨some 6, .mv (.k (.bool false)), none⟩] [4, 5, 6] [])
  (.ret)) (.skip)))
  (.seq (.reg [⟨some 31, .mv (.t 0), none⟩,
    ⟨some 32, .mv (.t 8), none⟩,
    ⟨some 33, .mv (.t 8), none⟩,
    ⟨some 34, .mv (.t 7), none⟩,
    ⟨some 35, .bin .add (.t 33) (.t 34), none⟩,
    ⟨some 36, .sstr (.t 31) (some (.t 32)) (some (.t 35)), none⟩,
    ⟨some 37, .mv (.t 8), none⟩,
    ⟨some 38, .mv (.t 7), none⟩,
    ⟨some 39, .bin .add (.t 37) (.t 38), none⟩,
    ⟨some 4, .mv (.t 36), none⟩,
    ⟨some 5, .mv (.t 39), none⟩,
    ⟨some 6, .mv (.k (.bool true)), none⟩] [4, 5, 6] [])
  (.ret))))
def impl_ReadShort.m : Fn := { np := 2, body := impl_ReadShort.b, res := [.tmp 4, .tmp 5, .tmp 6] }
def impl_ReadShort.k (M : Nat → Option Body) : Prop := M 207 = some (.code impl_ReadShort.m) ∧ impl_ReadVar.k M
def impl_short.b : C := .seq (.reg [⟨some 2, .mv (.k (.str ⟨#[]⟩)), none⟩] [0] [])
  (.seq (.reg [⟨some 6, .mv (.t 0), none⟩,
    ⟨some 7, .call 205 [.t 6] [] [], none⟩,
    ⟨some 5, .mv (.t 7), none⟩,
    ⟨some 8, .ext 0 (.t 5), none⟩,
    ⟨some 9, .ext 1 (.t 5), none⟩,
    ⟨some 3, .mv (.t 8), none⟩,
    ⟨some 4, .mv (.t 9), none⟩] [3] [])
  (.seq (.reg [⟨some 10, .mv (.t 3), none⟩,
    ⟨some 2, .mv (.t 10), none⟩] [2] [])
  (.ret)))
def impl_short.m : Fn := { np := 1, body := impl_short.b, res := [.tmp 2] }
def impl_short.k (M : Nat → Option Body) : Prop := M 102 = some (.code impl_short.m) ∧ impl_ShortText.k M
def impl_vars.l0 : C := .seq (.reg [⟨some 11, .bin .lss (.t 10) (.t 9), none⟩] [3, 8, 9, 10, 11] [])
  (.seq (.cond (.t 11) (.skip) (.exit 0))
  (.seq (.block 1 (.seq (.reg [⟨some 12, .iaddr 1 (.t 8) (.t 10), none⟩,
    ⟨some 13, .load false 1 (.t 12), none⟩,
    ⟨some 5, .mv (.t 13), none⟩] [3, 5, 8, 9, 10] [])
  (.seq (.reg [⟨some 15, .mv (.t 5), none⟩,
    ⟨some 16, .call 230 [.t 15] [] [], none⟩,
    ⟨some 14, .mv (.t 16), none⟩,
    ⟨some 17, .ext 0 (.t 14), none⟩,
    ⟨some 18, .ext 1 (.t 14), none⟩,
    ⟨some 6, .mv (.t 17), none⟩,
    ⟨some 7, .mv (.t 18), none⟩] [3, 6, 8, 9, 10] [])
  (.reg [⟨some 19, .mv (.t 3), none⟩,
    ⟨some 20, .mv (.t 6), none⟩,
    ⟨some 21, .bin .add (.t 19) (.t 20), none⟩,
    ⟨some 3, .mv (.t 21), none⟩] [3, 8, 9, 10] []))))
  (.reg [⟨some 22, .bin .add (.t 10) (.k (.int .i64 1)), none⟩,
    ⟨some 10, .mv (.t 22), none⟩] [3, 8, 9, 10] [])))
def impl_vars.b : C := .seq (.reg [⟨some 2, .mv (.k (.str ⟨#[]⟩)), none⟩] [0] [])
  (.seq (.reg [⟨some 3, .mv (.k (.str ⟨#[]⟩)), none⟩] [0, 3] [])
  (.seq (.seq (.reg [⟨some 8, .mv (.t 0), none⟩,
    ⟨some 9, .len (.t 8), none⟩,
    ⟨some 10, .mv (.k (.int .i64 0)), none⟩] [3, 8, 9, 10] [])
  (.block 0 (.loop impl_vars.l0)))
  (.seq (.reg [⟨some 23, .mv (.t 3), none⟩,
    ⟨some 2, .mv (.t 23), none⟩] [2] [])
  (.ret))))
def impl_vars.m : Fn := { np := 1, body := impl_vars.b, res := [.tmp 2] }
def impl_vars.k (M : Nat → Option Body) : Prop := M 151 = some (.code impl_vars.m) ∧ impl_VarText.k M
end Mx

/-
  Numbers in bytes: VarText, ReadVar; short texts.
-/
namespace Mx
open Go
variable {M : Nat → Option Body}
/-- the bytes ahead of the last, and the last -/
def varP (n : Nat) : List UInt8 × Nat := if n > 127 then let r := varP (n / 128); (UInt8.ofNat (n % 128 + 128) :: r.1, r.2) else ([], n)
termination_by n
decreasing_by omega
theorem varP_low {n : Nat} (h : ¬ n > 127) : varP n = ([], n) := by rw [varP, if_neg h]
theorem varP_high {n : Nat} (h : n > 127) : varP n = (UInt8.ofNat (n % 128 + 128) :: (varP (n / 128)).1, (varP (n / 128)).2) := by rw [varP, if_pos h]
def varT (n : Nat) : List UInt8 := (varP n).1 ++ [UInt8.ofNat (varP n).2]
theorem varP_len : ∀ (k n : Nat), n < 128 ^ k → (varP n).1.length ≤ k := by
  intro k
  induction k with
  | zero => intro n h; have : n = 0 := by simpa using h
            subst this; rw [varP_low (by omega)]; simp
  | succ k ih =>
    intro n h
    by_cases hc : n > 127
    · rw [varP_high hc]
      have := ih (n / 128) (by rw [Nat.pow_succ] at h; omega)
      simp; omega
    · rw [varP_low hc]; simp
theorem varT_len {n : Nat} (h : n ≤ 9223372036854775807) : (varT n).length ≤ 10 := by
  have := varP_len 9 n (by omega)
  simp [varT]; omega

def spV (a b c : Nat) (s : Nat × List UInt8) (x : Nat × Nat) : St := { t := [(0, .c (I s.1)), (b, .c (.row a x.1 0 s.2.length))], o := [(a, ⟨x.1, 1, true, false, brow s.2⟩)], n := x.2 }
def vInv (s : Nat × List UInt8) : Prop := s.1 ≤ 9223372036854775807 ∧ ∃ k, s.1 < 128 ^ k ∧ s.2.length + k ≤ 20
theorem vInv_step {n : Nat} {acc : List UInt8} (h : vInv (n, acc)) (hc : n > 127) (b : UInt8) : vInv (n / 128, acc ++ [b]) := by
  obtain ⟨h1, k, h2, h3⟩ := h
  simp only at h1 h2 h3
  cases k with
  | zero => simp at h2; omega
  | succ k => exact ⟨by simp only; omega, k, by simp only; rw [Nat.pow_succ] at h2; omega, by simp; omega⟩
theorem spec_l01Var.says (h : spec_l01Var.k M) (n : Nat) (hn : n ≤ 9223372036854775807) : run M 99 [.c (I n)] [] = some (.c (S (varT n)), []) := by
  refine run_code (b := spec_l01Var.m) h ⟨n + 1, ?_⟩
  obtain ⟨g, hr⟩ := loop_all (f := exC (run M) (n + 1) spec_l01Var.l0) (spV 4 3 6) vInv (fun s => s.1) (fun s => (s.2 ++ (varP s.1).1, (varP s.1).2))
    (fun q (m : Nat × Nat) => (.exit 0, { t := [(0, .c (I q.2)), (3, .c (.row 4 m.1 0 q.1.length)), (6, .c (.bool false))], o := [(4, ⟨m.1, 1, true, false, brow q.1⟩)], n := m.2 }))
    (by
      rintro ⟨i, acc⟩ ⟨v, x⟩ hi
      by_cases hc : i > 127
      · left
        have hb := hi.1
        obtain ⟨k, hk1, hk2⟩ := hi.2
        simp only at hb hk1 hk2
        have e1 : IntKind.i64.wrap ((i : Int).tmod 128 + 128) = ((i % 128 + 128 : Nat) : Int) := by
          rw [Int.tmod_eq_emod_of_nonneg (by omega), wrap_i64 (by omega) (by omega)]; omega
        have e2 : IntKind.i64.wrap ((i : Int) / 128) = (i : Int) / 128 := wrap_i64 (by omega) (by omega)
        have e3 : IntKind.u8.wrap ((i % 128 + 128 : Nat) : Int) = ((UInt8.ofNat (i % 128 + 128)).toNat : Int) := by rw [ofNat_toNat, wrap_u8]
        have hc' : (127 : Int) < i := by omega
        have e4 : acc.length + 1 ≤ 4294967296 := by omega
        generalize hb : UInt8.ofNat (i % 128 + 128) = b at e3
        obtain ⟨y, hy⟩ : ∃ y, exC (run M) (n + 1) spec_l01Var.l0 (spV 4 3 6 (i, acc) (v, x)) = some (.normal, spV 4 3 6 (i / 128, acc ++ [b]) y) := by
          simp only [Prod.exists]
          simp only [spV, spec_l01Var.l0]
          simp only [Int.natCast_add, Int.natCast_emod, Int.cast_ofNat_Int] at e1 e3
          simp [hc', e1, e2, e3, e4, brow1, List.take_of_length_le]
        refine ⟨(i / 128, acc ++ [b]), y, hy, vInv_step hi hc b, by simp only; omega, ?_⟩
        simp only [varP_high hc, hb, List.append_assoc, List.cons_append, List.nil_append]
      · right
        have hc' : ¬ (127 : Int) < i := by omega
        refine ⟨(v, x + 32), ?_, by simp⟩
        simp only [varP_low hc, List.append_nil]
        simp [spV, spec_l01Var.l0, hc'])
    (n + 1) (n, []) ⟨hn, 9, by simp only; omega, by simp⟩ (by simp)
  have hl := varP_len 9 n (by omega)
  have e3 : IntKind.u8.wrap ((varP n).2 : Int) = ((UInt8.ofNat (varP n).2).toNat : Int) := by rw [ofNat_toNat, wrap_u8]
  have e4 : (varP n).1.length + 1 ≤ 4294967296 := by omega
  simp only [List.nil_append] at hr
  simp [spV, -List.nil_append] at hr
  generalize hb : UInt8.ofNat (varP n).2 = b at e3
  have hv : varT n = (varP n).1 ++ [b] := by rw [← hb]; rfl
  rw [hv]
  simp [exB, spec_l01Var.m, spec_l01Var.b, List.range_succ, hr, e3, e4, brow1, List.take_of_length_le]

theorem or_and (n : Nat) (h : n < 9223372036854775808) : orI .i64 (andI .i64 n 127) 128 = ((n % 128 + 128 : Nat) : Int) := by
  have e1 := and_i64 n 127 h (by omega)
  have e2 := or_i64 (n % 128) 128 (by omega) (by omega)
  rw [and_127] at e1
  rw [or_128 _ (by omega)] at e2
  rw [show (127 : Int) = ((127 : Nat) : Int) from rfl, e1]
  exact e2
theorem impl_VarText.says (h : impl_VarText.k M) (n : Nat) (hn : n ≤ 9223372036854775807) : run M 230 [.c (I n)] [] = some (.tup [.c (S (if n ≤ 1000000000 then varT n else [])), .c (.bool (decide (n ≤ 1000000000)))], []) := by
  have hw := impl_within.says h.2 n 0 1000000000
  refine run_code (b := impl_VarText.m) h.1 ⟨n + 1, ?_⟩
  by_cases hm : n ≤ 1000000000
  rotate_left
  · have hm' : ¬ (n : Int) ≤ 1000000000 := by omega
    simp [hm'] at hw
    simp [exB, impl_VarText.m, impl_VarText.b, List.range_succ, hw, hm]
  have hm' : (n : Int) ≤ 1000000000 := by omega
  simp [hm'] at hw
  obtain ⟨g, hr⟩ := loop_all (f := exC (run M) (n + 1) impl_VarText.l0) (spV 8 4 10) vInv (fun s => s.1) (fun s => (s.2 ++ (varP s.1).1, (varP s.1).2))
    (fun q (m : Nat × Nat) => (.exit 0, { t := [(0, .c (I q.2)), (4, .c (.row 8 m.1 0 q.1.length)), (10, .c (.bool false))], o := [(8, ⟨m.1, 1, true, false, brow q.1⟩)], n := m.2 }))
    (by
      rintro ⟨i, acc⟩ ⟨v, x⟩ hi
      by_cases hc : i > 127
      · left
        have hb := hi.1
        obtain ⟨k, hk1, hk2⟩ := hi.2
        simp only at hb hk1 hk2
        have e1 := or_and i (by omega)
        have e2 : (i : Int).fdiv 128 = ((i / 128 : Nat) : Int) := by
          rw [Int.fdiv_eq_ediv_of_nonneg _ (by omega)]; omega
        have e3 : IntKind.u8.wrap ((i % 128 + 128 : Nat) : Int) = ((UInt8.ofNat (i % 128 + 128)).toNat : Int) := by rw [ofNat_toNat, wrap_u8]
        have hc' : (127 : Int) < i := by omega
        have e4 : acc.length + 1 ≤ 4294967296 := by omega
        generalize hb : UInt8.ofNat (i % 128 + 128) = b at e3
        obtain ⟨y, hy⟩ : ∃ y, exC (run M) (n + 1) impl_VarText.l0 (spV 8 4 10 (i, acc) (v, x)) = some (.normal, spV 8 4 10 (i / 128, acc ++ [b]) y) := by
          simp only [Prod.exists]
          simp only [spV, impl_VarText.l0]
          simp only [Int.natCast_add, Int.natCast_emod, Int.cast_ofNat_Int] at e1 e3
          simp [hc', e1, e2, e3, e4, brow1, List.take_of_length_le, IntKind.bits]
        refine ⟨(i / 128, acc ++ [b]), y, hy, vInv_step hi hc b, by simp only; omega, ?_⟩
        simp only [varP_high hc, hb, List.append_assoc, List.cons_append, List.nil_append]
      · right
        have hc' : ¬ (127 : Int) < i := by omega
        refine ⟨(v, x + 32), ?_, by simp⟩
        simp only [varP_low hc, List.append_nil]
        simp [spV, impl_VarText.l0, hc'])
    (n + 1) (n, []) ⟨hn, 9, by simp only; omega, by simp⟩ (by simp)
  have hl := varP_len 9 n (by omega)
  have e3 : IntKind.u8.wrap ((varP n).2 : Int) = ((UInt8.ofNat (varP n).2).toNat : Int) := by rw [ofNat_toNat, wrap_u8]
  have e4 : (varP n).1.length + 1 ≤ 4294967296 := by omega
  simp only [List.nil_append] at hr
  simp [spV, -List.nil_append] at hr
  generalize hb : UInt8.ofNat (varP n).2 = b at e3
  have hv : varT n = (varP n).1 ++ [b] := by rw [← hb]; rfl
  rw [hv]
  simp [exB, impl_VarText.m, impl_VarText.b, List.range_succ, hr, hw, hm, e3, e4, brow1, List.take_of_length_le]
/-- its length, and it -/
def shortT (l : List UInt8) : List UInt8 := varT l.length ++ l
theorem impl_ShortText.says (h : impl_ShortText.k M) (l : List UInt8) (hl : l.length ≤ 4611686018427387904) : run M 205 [.c (S l)] [] = some (.tup [.c (S (if 20000 < l.length then [] else shortT l)), .c (.bool (!decide (20000 < l.length)))], []) := by
  have h1 := impl_VarText.says h.2 l.length (by omega)
  refine run_code (b := impl_ShortText.m) h.1 ⟨0, ?_⟩
  by_cases c : 20000 < l.length
  · have c' : 20000 < (l.length : Int) := by omega
    simp [exB, impl_ShortText.m, impl_ShortText.b, List.range_succ, c, c']
  · have c' : ¬ 20000 < (l.length : Int) := by omega
    have c2 : l.length ≤ 1000000000 := by omega
    have hv := varT_len (n := l.length) (by omega)
    simp only [c2, if_true, decide_true] at h1
    simp (disch := (first | omega | (simp; done) | (simp; omega))) [exB, impl_ShortText.m, impl_ShortText.b, List.range_succ, c, c', h1, shortT, str_add]
theorem impl_short.says (h : impl_short.k M) (l : List UInt8) (hl : l.length ≤ 20000) : run M 102 [.c (S l)] [] = some (.c (S (shortT l)), []) := by
  have h1 := impl_ShortText.says h.2 l (by omega)
  have c : ¬ 20000 < l.length := by omega
  refine run_code (b := impl_short.m) h.1 ⟨0, ?_⟩
  simp only [c, if_false] at h1
  simp [exB, impl_short.m, impl_short.b, List.range_succ, h1]
end Mx

/-
  Small codes: spec.RecordText, impl.RecordText, laws.FnExactRecordText.
-/
namespace Mx
open Go
def spec_RecordText.b : C := .seq (.reg [⟨some 2, .mv (.k (.str ⟨#[]⟩)), none⟩,
    ⟨some 3, .mv (.k (.bool false)), none⟩] [0] [])
  (.seq (.seq (.reg [⟨some 4, .mv (.t 0), none⟩,
    ⟨some 5, .slen (.t 4), none⟩,
    ⟨some 6, .call 98 [.t 5, .k (.int .i64 1), .k (.int .i64 6000)] [] [], none⟩,
    ⟨some 7, .not (.t 6), none⟩] [0, 7] [])
  (.cond (.t 7) (.seq (.reg [⟨some 2, .mv (.k (.str ⟨#[]⟩)), none⟩,
    ⟨some 3, .mv (.k (.bool false)), none⟩] [2, 3] [])
  (.ret)) (.skip)))
  (.seq (.reg [⟨some 8, .mv (.t 0), none⟩,
    ⟨some 9, .slen (.t 8), none⟩,
    ⟨some 10, .call 99 [.t 9] [] [], none⟩,
    ⟨some 11, .mv (.t 0), none⟩,
    ⟨some 12, .bin .add (.t 10) (.t 11), none⟩,
    ⟨some 13, .call 100 [.t 12] [] [], none⟩,
    ⟨some 14, .ext 0 (.t 13), none⟩,
    ⟨some 15, .ext 1 (.t 13), none⟩,
    ⟨some 2, .mv (.t 14), none⟩,
    ⟨some 3, .mv (.t 15), none⟩] [2, 3] [])
  (.ret)))
def spec_RecordText.m : Fn := { np := 1, body := spec_RecordText.b, res := [.tmp 2, .tmp 3] }
def spec_RecordText.k (M : Nat → Option Body) : Prop := M 10 = some (.code spec_RecordText.m) ∧ spec_l01In.k M ∧ spec_l01Var.k M ∧ spec_Sealed.k M
def impl_RecordText.b : C := .seq (.reg [⟨some 2, .mv (.k (.str ⟨#[]⟩)), none⟩,
    ⟨some 3, .mv (.k (.bool false)), none⟩] [0] [])
  (.seq (.seq (.reg [⟨some 4, .mv (.t 0), none⟩,
    ⟨some 5, .slen (.t 4), none⟩,
    ⟨some 6, .call 101 [.t 5, .k (.int .i64 1), .k (.int .i64 6000)] [] [], none⟩,
    ⟨some 7, .not (.t 6), none⟩] [0, 7] [])
  (.cond (.t 7) (.seq (.reg [⟨some 2, .mv (.k (.str ⟨#[]⟩)), none⟩,
    ⟨some 3, .mv (.k (.bool false)), none⟩] [2, 3] [])
  (.ret)) (.skip)))
  (.seq (.reg [⟨some 8, .mv (.t 0), none⟩,
    ⟨some 9, .call 102 [.t 8] [] [], none⟩,
    ⟨some 10, .call 103 [.t 9] [] [], none⟩,
    ⟨some 11, .ext 0 (.t 10), none⟩,
    ⟨some 12, .ext 1 (.t 10), none⟩,
    ⟨some 2, .mv (.t 11), none⟩,
    ⟨some 3, .mv (.t 12), none⟩] [2, 3] [])
  (.ret)))
def impl_RecordText.m : Fn := { np := 1, body := impl_RecordText.b, res := [.tmp 2, .tmp 3] }
def impl_RecordText.k (M : Nat → Option Body) : Prop := M 11 = some (.code impl_RecordText.m) ∧ impl_within.k M ∧ impl_short.k M ∧ impl_Sealed.k M
def laws_FnExactRecordText.b : C := .seq (.reg [⟨some 2, .mv (.k (.bool false)), none⟩] [0] [])
  (.seq (.seq (.reg [⟨some 7, .mv (.t 0), none⟩,
    ⟨some 8, .slen (.t 7), none⟩,
    ⟨some 9, .bin .gtr (.t 8) (.k (.int .i64 1048576)), none⟩] [0, 9] [])
  (.cond (.t 9) (.seq (.reg [⟨some 2, .mv (.k (.bool true)), none⟩] [2] [])
  (.ret)) (.skip)))
  (.seq (.reg [⟨some 11, .mv (.t 0), none⟩,
    ⟨some 12, .call 10 [.t 11] [] [], none⟩,
    ⟨some 10, .mv (.t 12), none⟩,
    ⟨some 13, .ext 0 (.t 10), none⟩,
    ⟨some 14, .ext 1 (.t 10), none⟩,
    ⟨some 3, .mv (.t 13), none⟩,
    ⟨some 4, .mv (.t 14), none⟩] [0, 3, 4] [])
  (.seq (.reg [⟨some 16, .mv (.t 0), none⟩,
    ⟨some 17, .call 11 [.t 16] [] [], none⟩,
    ⟨some 15, .mv (.t 17), none⟩,
    ⟨some 18, .ext 0 (.t 15), none⟩,
    ⟨some 19, .ext 1 (.t 15), none⟩,
    ⟨some 5, .mv (.t 18), none⟩,
    ⟨some 6, .mv (.t 19), none⟩] [3, 4, 5, 6] [])
  (.seq (.seq (.reg [⟨some 20, .mv (.t 5), none⟩,
    ⟨some 21, .mv (.t 3), none⟩,
    ⟨some 22, .bin .neq (.t 20) (.t 21), none⟩,
    ⟨some 23, .mv (.t 22), none⟩,
    ⟨some 24, .mv (.t 6), some (23, false)⟩,
    ⟨some 25, .mv (.t 4), some (23, false)⟩,
    ⟨some 26, .beq true (.t 24) (.t 25), some (23, false)⟩,
    ⟨some 27, .pick (.t 23) (.k (.bool true)) (.t 26), none⟩] [27] [])
  (.cond (.t 27) (.seq (.reg [⟨some 2, .mv (.k (.bool false)), none⟩] [2] [])
  (.ret)) (.skip)))
  (.seq (.reg [⟨some 2, .mv (.k (.bool true)), none⟩] [2] [])
  (.ret))))))
def laws_FnExactRecordText.m : Fn := { np := 1, body := laws_FnExactRecordText.b, res := [.tmp 2] }
def laws_FnExactRecordText.k (M : Nat → Option Body) : Prop := M 363 = some (.code laws_FnExactRecordText.m) ∧ spec_RecordText.k M ∧ impl_RecordText.k M
end Mx

/-
  What the two RecordText answer, and their law.
-/
namespace Mx
open Go
variable {M : Nat → Option Body}
def recordText (l : List UInt8) : List UInt8 × Bool := if 1 ≤ l.length ∧ l.length ≤ 6000 then sealed (shortT l) else ([], false)
theorem spec_RecordText.says (h : spec_RecordText.k M) (l : List UInt8) (hl : l.length ≤ 4611686018427387904) : run M 10 [.c (S l)] [] = some (.tup [.c (S (recordText l).1), .c (.bool (recordText l).2)], []) := by
  obtain ⟨h0, k1, k2, k3⟩ := h
  have hw := spec_l01In.says k1 l.length 1 6000
  refine run_code (b := spec_RecordText.m) h0 ⟨0, ?_⟩
  by_cases c : 1 ≤ l.length ∧ l.length ≤ 6000
  · have c1 : (1 : Int) ≤ l.length := by omega
    have c2 : (l.length : Int) ≤ 6000 := by omega
    have h1 := spec_l01Var.says k2 l.length (by omega)
    have hv := varT_len (n := l.length) (by omega)
    have h2 := spec_Sealed.says k3 (varT l.length ++ l) (by simp; omega)
    simp [c1, c2] at hw
    simp (disch := (first | omega | (simp; done) | (simp; omega))) [exB, spec_RecordText.m, spec_RecordText.b, List.range_succ, hw, h1, h2, recordText, c, shortT, str_add]
  · have hb : (decide ((1 : Int) ≤ l.length) && decide ((l.length : Int) ≤ 6000)) = false := by
      rw [Bool.eq_false_iff]; intro hh; simp only [Bool.and_eq_true, decide_eq_true_eq] at hh; omega
    rw [hb] at hw
    simp [exB, spec_RecordText.m, spec_RecordText.b, List.range_succ, hw, recordText, c]
theorem impl_RecordText.says (h : impl_RecordText.k M) (l : List UInt8) (hl : l.length ≤ 4611686018427387904) : run M 11 [.c (S l)] [] = some (.tup [.c (S (recordText l).1), .c (.bool (recordText l).2)], []) := by
  obtain ⟨h0, k1, k2, k3⟩ := h
  have hw := impl_within.says k1 l.length 1 6000
  refine run_code (b := impl_RecordText.m) h0 ⟨0, ?_⟩
  by_cases c : 1 ≤ l.length ∧ l.length ≤ 6000
  · have c1 : (1 : Int) ≤ l.length := by omega
    have c2 : (l.length : Int) ≤ 6000 := by omega
    have h1 := impl_short.says k2 l (by omega)
    have hv := varT_len (n := l.length) (by omega)
    have h2 := impl_Sealed.says k3 (shortT l) (by simp [shortT]; omega)
    simp [c1, c2] at hw
    simp [exB, impl_RecordText.m, impl_RecordText.b, List.range_succ, hw, h1, h2, recordText, c]
  · have hb : (decide ((1 : Int) ≤ l.length) && decide ((l.length : Int) ≤ 6000)) = false := by
      rw [Bool.eq_false_iff]; intro hh; simp only [Bool.and_eq_true, decide_eq_true_eq] at hh; omega
    rw [hb] at hw
    simp [exB, impl_RecordText.m, impl_RecordText.b, List.range_succ, hw, recordText, c]
theorem laws_FnExactRecordText.says (h : laws_FnExactRecordText.k M) (l : List UInt8) : run M 363 [.c (S l)] [] = some (.c (.bool true), []) := by
  refine run_code (b := laws_FnExactRecordText.m) h.1 ⟨0, ?_⟩
  by_cases hc : (1048576 : Int) < l.length
  · simp [exB, laws_FnExactRecordText.m, laws_FnExactRecordText.b, List.range_succ, hc]
  · have h1 := spec_RecordText.says h.2.1 l (by omega)
    have h2 := impl_RecordText.says h.2.2 l (by omega)
    simp [exB, laws_FnExactRecordText.m, laws_FnExactRecordText.b, List.range_succ, hc, h1, h2]
theorem laws_FnExactRecordText.row (h : laws_FnExactRecordText.k M) {as : List V} (ha : HasVs [.cell .str] as) : run M 363 as [] = some (.c (.bool true), []) := by
  cases ha with | cons h0 ha =>
  cases ha
  cases h0 with | cell h0 =>
  cases h0 with | str s hs =>
  obtain ⟨l, rfl⟩ := of_bytes s
  exact laws_FnExactRecordText.says h l
end Mx

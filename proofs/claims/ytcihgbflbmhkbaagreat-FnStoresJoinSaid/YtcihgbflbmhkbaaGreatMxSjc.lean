/-
  What more of the functions compute, each by a small evaluation; no condition beyond what each says.
-/
import Derived.Lib.SlicesCompact
import Derived.Test.YtcihgbflbmhkbaaGreatMxSjb
set_option linter.unusedSimpArgs false
set_option linter.unusedVariables false
namespace Mx
open Go
def impl_copyRegs.b : C := .seq (.reg [Q 2 (.nil 3)] [0] [])
  (.seq (.reg [Q 3 (.bslice 3 0 [.int .i64 0, .int .i64 0, .int .i64 0] []), Qm 4 0, Q 5 (.app 3 24 (.t 3) (.t 4)), Qm 2 5] [2] [2,3,5])
  (.ret))
def impl_copyRegs.m : Fn := { np := 1, body := impl_copyRegs.b, res := [.tmp 2] }
def impl_copyRegs.k (M : Nat → Option Body) : Prop := M 239 = some (.code impl_copyRegs.m)
def impl_copyMail.b : C := .seq (.reg [Qv 1 0, Q 2 (.alloc [.int .i64 0, .int .i64 0, .nils 3, .str ⟨#[]⟩])] [1,2] [1,2,10500])
  (.seq (.reg [Qf 3 2 1, Ql 4 3, Q 5 (.call 239 [.t 4] [] [(0, 10500)]), Qf 6 2 1, Qs 1 6 5] [1,2] [1,2,10500])
  (.seq (.reg [QL 7 4 1, Qs 4 2 7] [2] [2,10500])
  (.ret)))
def impl_copyMail.m : Fn := { np := 1, body := impl_copyMail.b, res := [.cell 2 true 4] }
def impl_copyMail.k (M : Nat → Option Body) : Prop := M 233 = some (.code impl_copyMail.m) ∧ impl_copyRegs.k M
def impl_copyBox.l0 : C := .seq (.reg [Q 13 (.bin .lss (.t 12) (.t 11))] [1,2,3,10,11,12,13] [1,2,3,7,21,12600])
  (.seq (.cond (.t 13) (.skip) (.exit 0))
  (.seq (.block 1 (.seq (.reg [Qa 14 4 10 12, QL 15 4 14, Q 5 (.alloc [.int .i64 0, .int .i64 0, .nils 3, .str ⟨#[]⟩]), Qs 4 5 15] [1,2,3,5,10,11,12] [1,2,3,5,7,21,12600])
  (.regd [Qf 16 5 3, Ql 17 16, QL 18 4 5, Q 19 (.call 233 [.t 18] [] []), Q 20 (.bslice 4 1 [.int .i64 0, .int .i64 0, .nils 3, .str ⟨#[]⟩] [(0, .t 19)]), Q 21 (.app 4 56 (.t 17) (.t 20)),
    Qf 22 5 3, Qs 1 22 21] [[], [0], [], [2], [2,3], lr 5, lr 6, lr 7] [1,2,3,10,11,12] [1,2,3,7,21,12600])))
  (.reg [Q 23 (.bin .add (.t 12) (kI 1)), Qm 12 23] [1,2,3,10,11,12] [1,2,3,7,21,12600])))
def impl_copyBox.b : C := .seq (.reg [Qv 1 0, Q 2 (.alloc [.int .i64 0, .str ⟨#[]⟩, .int .i64 0, .int .i64 0, .int .i64 0, .nils 4, .nils 1])] [1,2] [1,2,7,21,12600])
  (.seq (.reg [QL 6 7 1, Q 3 (.alloc [.int .i64 0, .str ⟨#[]⟩, .int .i64 0, .int .i64 0, .int .i64 0, .nils 4, .nils 1]), Qs 7 3 6] [1,2,3] [1,2,3,7,21,12600])
  (.seq (.reg [Q 7 (.bslice 4 0 [.int .i64 0, .int .i64 0, .nils 3, .str ⟨#[]⟩] []), Qf 8 5 3, Qs 1 8 7] [1,2,3] [1,2,3,7,21,12600])
  (.seq (.seq (.reg [Qf 9 5 1, Ql 10 9, Q 11 (.len (.t 10)), Qi 12 0] [1,2,3,10,11,12] [1,2,3,7,21,12600])
  (.block 0 (.loop impl_copyBox.l0)))
  (.seq (.reg [Qf 24 6 1, Ql 25 24, Q 26 (.call 134 [.t 25] [] [(0, 12600)]), Qf 27 6 3, Qs 1 27 26] [2,3] [2,3,7,21,12600])
  (.seq (.reg [QL 28 7 3, Qs 7 2 28] [2] [2,7,21,12600])
  (.ret))))))
def impl_copyBox.m : Fn := { np := 1, body := impl_copyBox.b, res := [.cell 2 true 7] }
def impl_copyBox.k (M : Nat → Option Body) : Prop := M 155 = some (.code impl_copyBox.m) ∧ impl_copyInts.k M ∧ impl_copyMail.k M
def impl_Later.b : C := .seq (.reg [Qv 2 0, Qv 3 1, Qb 4 false] [2,3] [2,3])
  (.seq (.reg [Qf 5 0 2, Ql 6 5, Qf 7 0 3, Ql 8 7, Q 9 (.bin .gtr (.t 6) (.t 8)), Qm 10 9, Qg 11 (.faddr 0 (.t 2)) 10 false, Qg 12 (.load false 1 (.t 11)) 10 false,
    Qg 13 (.faddr 0 (.t 3)) 10 false, Qg 14 (.load false 1 (.t 13)) 10 false, Qg 15 (.bin .eql (.t 12) (.t 14)) 10 false, Qg 16 (.mv (.t 15)) 10 false, Qg 17 (.faddr 1 (.t 2)) 16 true,
    Qg 18 (.load false 1 (.t 17)) 16 true, Qg 19 (.faddr 1 (.t 3)) 16 true, Qg 20 (.load false 1 (.t 19)) 16 true, Qg 21 (.bin .gtr (.t 18) (.t 20)) 16 true,
    Qg 22 (.pick (.t 16) (.t 21) (kB false)) 10 false, Q 23 (.pick (.t 10) (kB true) (.t 22)), Qm 4 23] [4] [])
  (.ret))
def impl_Later.m : Fn := { np := 2, body := impl_Later.b, res := [.tmp 4] }
def impl_Later.k (M : Nat → Option Body) : Prop := M 275 = some (.code impl_Later.m)
end Mx

namespace Mx
open Go
def spec_l04Copy.b : C := .seq (.reg [Q 2 (.nil 3)] [0] [])
  (.seq (.reg [Q 3 (.bslice 3 0 [.int .i64 0, .int .i64 0, .int .i64 0] []), Qm 4 0, Q 5 (.app 3 24 (.t 3) (.t 4)), Qm 2 5] [2] [2,3,5])
  (.ret))
def spec_l04Copy.m : Fn := { np := 1, body := spec_l04Copy.b, res := [.tmp 2] }
def spec_l04Copy.k (M : Nat → Option Body) : Prop := M 241 = some (.code spec_l04Copy.m)
def spec_l05Copy.b : C := .seq (.reg [Qv 1 0, Q 2 (.alloc [.int .i64 0, .int .i64 0, .nils 3, .str ⟨#[]⟩])] [1,2] [1,2,10500])
  (.seq (.reg [Qf 3 2 1, Ql 4 3, Q 5 (.call 241 [.t 4] [] [(0, 10500)]), Qf 6 2 1, Qs 1 6 5] [1,2] [1,2,10500])
  (.seq (.reg [QL 7 4 1, Qs 4 2 7] [2] [2,10500])
  (.ret)))
def spec_l05Copy.m : Fn := { np := 1, body := spec_l05Copy.b, res := [.cell 2 true 4] }
def spec_l05Copy.k (M : Nat → Option Body) : Prop := M 238 = some (.code spec_l05Copy.m) ∧ spec_l04Copy.k M
def spec_l06Copy.l0 : C := .seq (.seq (.reg [Qm 8 4, Qf 9 5 1, Ql 10 9, Q 11 (.len (.t 10)), Q 12 (.bin .lss (.t 8) (.t 11))] [1,2,3,4,12] [1,2,3,6,24,26,29])
  (.cond (.t 12) (.skip) (.exit 0)))
  (.seq (.block 1 (.regd [Qf 15 5 3, Ql 16 15, Qf 17 5 1, Ql 18 17, Qm 19 4, Qa 20 4 18 19, QL 21 4 20, Q 22 (.call 238 [.t 21] [] []),
    Q 23 (.bslice 4 1 [.int .i64 0, .int .i64 0, .nils 3, .str ⟨#[]⟩] [(0, .t 22)]), Q 24 (.app 4 56 (.t 16) (.t 23)), Qf 25 5 3, Qs 1 25 24] [[], [0], [], [2], [], [2,3,4], [2,3,4,5], [2,3,4,5,6], [2,3,4,5,6,7], lr 9, lr 10, lr 11] [1,2,3,4] [1,2,3,6,24,26,29]))
  (.reg [Qm 13 4, Q 14 (.bin .add (.t 13) (kI 1)), Qm 4 14] [1,2,3,4] [1,2,3,6,24,26,29]))
def spec_l06Copy.b : C := .seq (.reg [Qv 1 0, Q 2 (.alloc [.int .i64 0, .str ⟨#[]⟩, .int .i64 0, .int .i64 0, .int .i64 0, .nils 4, .nils 1])] [1,2] [1,2,6,24,26,29])
  (.seq (.reg [QL 5 7 1, Q 3 (.alloc [.int .i64 0, .str ⟨#[]⟩, .int .i64 0, .int .i64 0, .int .i64 0, .nils 4, .nils 1]), Qs 7 3 5] [1,2,3] [1,2,3,6,24,26,29])
  (.seq (.reg [Q 6 (.bslice 4 0 [.int .i64 0, .int .i64 0, .nils 3, .str ⟨#[]⟩] []), Qf 7 5 3, Qs 1 7 6] [1,2,3] [1,2,3,6,24,26,29])
  (.seq (.seq (.reg [Qi 4 0] [1,2,3,4] [1,2,3,6,24,26,29])
  (.block 0 (.loop spec_l06Copy.l0)))
  (.seq (.reg [Q 26 (.bslice 1 0 [.int .i64 0] []), Qf 27 6 1, Ql 28 27, Q 29 (.app 1 8 (.t 26) (.t 28)), Qf 30 6 3, Qs 1 30 29] [2,3] [2,3,6,24,26,29])
  (.seq (.reg [QL 31 7 3, Qs 7 2 31] [2] [2,6,24,26,29])
  (.ret))))))
def spec_l06Copy.m : Fn := { np := 1, body := spec_l06Copy.b, res := [.cell 2 true 7] }
def spec_l06Copy.k (M : Nat → Option Body) : Prop := M 180 = some (.code spec_l06Copy.m) ∧ spec_l05Copy.k M
def spec_FlagsNew.l0 : C := .seq (.seq (.reg [Qm 9 6, Q 10 (.bin .lss (.t 9) (kI 3))] [0,3,5,6,10] [3,8,24])
  (.cond (.t 10) (.skip) (.exit 0)))
  (.seq (.block 1 (.seq (.reg [Qi 7 0] [0,3,5,6,7] [3,8,24])
  (.seq (.seq (.reg [Qm 13 0, Qm 14 6, Q 15 (.i2i .u64 (.t 14)), Q 16 (.bin .shr (.t 13) (.t 15)), Q 17 (.bin .rem (.t 16) (kI 2)), Q 18 (.bin .neq (.t 17) (kI 0))] [0,3,5,6,7,18] [3,8,24])
  (.cond (.t 18) (.reg [Qi 7 1] [0,3,5,6,7] [3,8,24]) (.skip)))
  (.reg [Qm 19 5, Qm 20 7, QL 21 2 3, Q 22 (.build [.int .i64 0, .int .i64 0, .int .i64 0] [(0, 1, .t 20), (1, 2, .t 21)]),
    Q 23 (.bslice 3 1 [.int .i64 0, .int .i64 0, .int .i64 0] [(0, .t 22)]), Q 24 (.app 3 24 (.t 19) (.t 23)), Qm 5 24] [0,3,5,6] [3,8,24]))))
  (.reg [Qm 11 6, Q 12 (.bin .add (.t 11) (kI 1)), Qm 6 12] [0,3,5,6] [3,8,24]))
def spec_FlagsNew.b : C := .seq (.reg [Qv 3 1, Q 4 (.nil 3)] [0,3] [3])
  (.seq (.reg [Q 8 (.bslice 3 0 [.int .i64 0, .int .i64 0, .int .i64 0] []), Qm 5 8] [0,3,5] [3,8,24])
  (.seq (.seq (.reg [Qi 6 0] [0,3,5,6] [3,8,24])
  (.block 0 (.loop spec_FlagsNew.l0)))
  (.seq (.reg [Qm 25 5, Qm 4 25] [4] [4,8,24])
  (.ret))))
def spec_FlagsNew.m : Fn := { np := 2, body := spec_FlagsNew.b, res := [.tmp 4] }
def spec_FlagsNew.k (M : Nat → Option Body) : Prop := M 181 = some (.code spec_FlagsNew.m)
def spec_AddMail.b : C := .seq (.reg [Qv 5 0, Qv 9 4, Q 10 (.alloc [.int .i64 0, .str ⟨#[]⟩, .int .i64 0, .int .i64 0, .int .i64 0, .nils 4, .nils 1]), Qb 11 false] [1,2,3,5,9,10] [5,9,10,47,11405,11406,15705,15706])
  (.seq (.reg [QL 13 7 5, Q 14 (.call 180 [.t 13] [] [(5, 11405), (6, 11406)]), Q 12 (.alloc [.int .i64 0, .str ⟨#[]⟩, .int .i64 0, .int .i64 0, .int .i64 0, .nils 4, .nils 1]), Qs 7 12 14] [1,2,3,5,9,10,12] [5,9,10,12,47,11405,11406,15705,15706])
  (.seq (.seq (.reg [QL 15 7 5, Q 16 (.call 88 [.t 15] [] []), Q 17 (.not (.t 16)), Qm 18 17, Qg 19 (.load true 7 (.t 5)) 18 false, Qg 20 (.mv (.t 1)) 18 false,
    Qg 21 (.call 91 [.t 19, .t 20] [] []) 18 false, Qg 22 (.bin .geq (.t 21) (kI 0)) 18 false, Q 23 (.pick (.t 18) (kB true) (.t 22)), Qm 24 23, Qg 25 (.faddr 6 (.t 5)) 24 false,
    Qg 26 (.load false 1 (.t 25)) 24 false, Qg 27 (.mv (.t 1)) 24 false, Qg 28 (.call 132 [.t 26, .t 27] [] []) 24 false, Q 29 (.pick (.t 24) (kB true) (.t 28)), Qm 30 29,
    Qg 31 (.mv (.t 2)) 30 false, Qg 32 (.call 98 [.t 31, kI 0, kI 7] [] []) 30 false, Qg 33 (.not (.t 32)) 30 false, Q 34 (.pick (.t 30) (kB true) (.t 33))] [1,2,3,5,9,10,12,34] [5,9,10,12,47,11405,11406,15705,15706])
  (.cond (.t 34) (.seq (.reg [QL 35 7 12, Qs 7 10 35, Qb 11 false] [10,11] [10,47,11405,11406,15705,15706])
  (.ret)) (.skip)))
  (.seq (.regd [Qf 36 5 12, Ql 37 36, Qm 38 1, Qf 39 4 5, Ql 40 39, Qm 41 2, QL 42 2 9, Q 43 (.call 181 [.t 41, .t 42] [] []), Qm 44 3,
    Q 45 (.build [.int .i64 0, .int .i64 0, .nils 3, .str ⟨#[]⟩] [(0, 1, .t 38), (1, 1, .t 40), (2, 1, .t 43), (3, 1, .t 44)]),
    Q 46 (.bslice 4 1 [.int .i64 0, .int .i64 0, .nils 3, .str ⟨#[]⟩] [(0, .t 45)]), Q 47 (.app 4 56 (.t 37) (.t 46)), Qf 48 5 12, Qs 1 48 47] [[], [0], [], [], [3], [], [], [5,6], [], [2,3,4,5,6,7,8], [2,3,4,5,6,7,8,9], lr 11, lr 12, lr 13] [5,10,12] [5,10,12,47,11405,11406,15705,15706])
  (.seq (.reg [Qf 49 4 5, Ql 50 49, Q 51 (.bin .add (.t 50) (kI 1)), Qf 52 4 12, Qs 1 52 51] [5,10,12] [5,10,12,47,11405,11406,15705,15706])
  (.seq (.seq (.reg [QL 53 7 12, Q 54 (.call 88 [.t 53] [] []), Q 55 (.not (.t 54))] [5,10,12,55] [5,10,12,47,11405,11406,15705,15706])
  (.cond (.t 55) (.seq (.reg [QL 56 7 5, Q 57 (.call 180 [.t 56] [] [(5, 15705), (6, 15706)]), Qs 7 10 57, Qb 11 false] [10,11] [10,47,11405,11406,15705,15706])
  (.ret)) (.skip)))
  (.seq (.reg [QL 58 7 12, Qs 7 10 58, Qb 11 true] [10,11] [10,47,11405,11406,15705,15706])
  (.ret)))))))
def spec_AddMail.m : Fn := { np := 5, body := spec_AddMail.b, res := [.cell 10 true 7, .tmp 11] }
def spec_AddMail.k (M : Nat → Option Body) : Prop := M 81 = some (.code spec_AddMail.m) ∧ spec_BoxOk.k M ∧ spec_MailAt.k M ∧ spec_l01In.k M ∧ spec_l06In.k M ∧ spec_l06Copy.k M ∧ spec_FlagsNew.k M
def spec_Later.b : C := .seq (.reg [Qv 2 0, Qv 3 1, Qb 4 false] [2,3] [2,3])
  (.seq (.seq (.reg [Qf 5 0 2, Ql 6 5, Qf 7 0 3, Ql 8 7, Q 9 (.bin .neq (.t 6) (.t 8))] [2,3,9] [2,3])
  (.cond (.t 9) (.seq (.reg [Qf 10 0 2, Ql 11 10, Qf 12 0 3, Ql 13 12, Q 14 (.bin .gtr (.t 11) (.t 13)), Qm 4 14] [4] [])
  (.ret)) (.skip)))
  (.seq (.reg [Qf 15 1 2, Ql 16 15, Qf 17 1 3, Ql 18 17, Q 19 (.bin .gtr (.t 16) (.t 18)), Qm 4 19] [4] [])
  (.ret)))
def spec_Later.m : Fn := { np := 2, body := spec_Later.b, res := [.tmp 4] }
def spec_Later.k (M : Nat → Option Body) : Prop := M 277 = some (.code spec_Later.m)
def spec_PutReg.b : C := .seq (.reg [Qv 3 0, Qv 5 2, Q 6 (.alloc [.int .i64 0, .int .i64 0, .int .i64 0])] [1,3,5,6] [3,5,6])
  (.seq (.reg [Qm 8 1, QL 9 2 5, Q 10 (.build [.int .i64 0, .int .i64 0, .int .i64 0] [(0, 1, .t 8), (1, 2, .t 9)]), Q 7 (.alloc [.int .i64 0, .int .i64 0, .int .i64 0]), Qs 3 7 10] [3,5,6,7] [3,5,6,7])
  (.seq (.seq (.reg [QL 11 2 5, Qf 12 1 3, QL 13 2 12, Q 14 (.call 277 [.t 11, .t 13] [] []), Q 15 (.not (.t 14)), Qm 16 15, Qg 17 (.load true 3 (.t 7)) 16 false,
    Qg 18 (.call 276 [.t 17] [] []) 16 false, Qg 19 (.not (.t 18)) 16 false, Q 20 (.pick (.t 16) (kB true) (.t 19))] [3,6,7,20] [3,6,7])
  (.cond (.t 20) (.seq (.reg [QL 21 3 3, Qs 3 6 21] [6] [6])
  (.ret)) (.skip)))
  (.seq (.reg [QL 22 3 7, Qs 3 6 22] [6] [6])
  (.ret))))
def spec_PutReg.m : Fn := { np := 3, body := spec_PutReg.b, res := [.cell 6 true 3] }
def spec_PutReg.k (M : Nat → Option Body) : Prop := M 243 = some (.code spec_PutReg.m) ∧ spec_RegOk.k M ∧ spec_Later.k M
def spec_SetFlags.l0 : C := .seq (.seq (.reg [Qm 21 8, Qm 22 7, Q 23 (.len (.t 22)), Q 24 (.bin .lss (.t 21) (.t 23))] [1,5,7,8,24] [5,11100])
  (.cond (.t 24) (.skip) (.exit 0)))
  (.seq (.block 1 (.seq (.reg [Qm 27 1, Qm 28 8, Q 29 (.i2i .u64 (.t 28)), Q 30 (.bin .shr (.t 27) (.t 29)), Q 31 (.bin .rem (.t 30) (kI 2)), Qm 9 31] [1,5,7,8,9] [5,11100])
  (.seq (.reg [Qm 32 7, Qm 33 8, Qa 34 3 32 33, Qf 35 0 34, Ql 36 35, Qm 37 9, Q 38 (.bin .neq (.t 36) (.t 37))] [1,5,7,8,9,38] [5,11100])
  (.cond (.t 38) (.regd [Qm 39 7, Qm 40 8, Qm 41 7, Qm 42 8, Qa 43 3 41 42, QL 44 3 43, Qm 45 9, QL 46 2 5, Q 47 (.call 243 [.t 44, .t 45, .t 46] [] []), Qa 48 3 39 40, Qs 3 48 47] [[], [], [], [], [2,3], [2,3,4], [], [], [2,3,4,5,6,7], lr 9, lr 10] [1,5,7,8] [5,11100]) (.skip)))))
  (.reg [Qm 25 8, Q 26 (.bin .add (.t 25) (kI 1)), Qm 8 26] [1,5,7,8] [5,11100]))
def spec_SetFlags.b : C := .seq (.reg [Qv 5 2, Q 6 (.nil 3)] [0,1,5] [5])
  (.seq (.reg [Qm 10 0, Q 11 (.call 241 [.t 10] [] [(0, 11100)]), Qm 7 11] [0,1,5,7] [5,11100])
  (.seq (.seq (.reg [Qm 12 0, Q 13 (.call 242 [.t 12] [] []), Q 14 (.not (.t 13)), Qm 15 14, Qg 16 (.mv (.t 1)) 15 false, Qg 17 (.call 98 [.t 16, kI 0, kI 7] [] []) 15 false,
    Qg 18 (.not (.t 17)) 15 false, Q 19 (.pick (.t 15) (kB true) (.t 18))] [1,5,7,19] [5,11100])
  (.cond (.t 19) (.seq (.reg [Qm 20 7, Qm 6 20] [6] [6,11100])
  (.ret)) (.skip)))
  (.seq (.seq (.reg [Qi 8 0] [1,5,7,8] [5,11100])
  (.block 0 (.loop spec_SetFlags.l0)))
  (.seq (.reg [Qm 49 7, Qm 6 49] [6] [6,11100])
  (.ret)))))
def spec_SetFlags.m : Fn := { np := 3, body := spec_SetFlags.b, res := [.tmp 6] }
def spec_SetFlags.k (M : Nat → Option Body) : Prop := M 184 = some (.code spec_SetFlags.m) ∧ spec_l01In.k M ∧ spec_l04Copy.k M ∧ spec_FlagsOk.k M ∧ spec_PutReg.k M
def spec_FlagMail.b : C := .seq (.reg [Qv 4 0, Qv 7 3, Q 8 (.alloc [.int .i64 0, .str ⟨#[]⟩, .int .i64 0, .int .i64 0, .int .i64 0, .nils 4, .nils 1]), Qb 9 false] [1,2,4,7,8] [4,7,8,11305,11306])
  (.seq (.reg [QL 12 7 4, Q 13 (.call 180 [.t 12] [] [(5, 11305), (6, 11306)]), Q 10 (.alloc [.int .i64 0, .str ⟨#[]⟩, .int .i64 0, .int .i64 0, .int .i64 0, .nils 4, .nils 1]), Qs 7 10 13] [1,2,4,7,8,10] [4,7,8,10,11305,11306])
  (.seq (.reg [QL 14 7 4, Qm 15 1, Q 16 (.call 91 [.t 14, .t 15] [] []), Qm 11 16] [2,4,7,8,10,11] [4,7,8,10,11305,11306])
  (.seq (.seq (.reg [QL 17 7 4, Q 18 (.call 88 [.t 17] [] []), Q 19 (.not (.t 18)), Qm 20 19, Qg 21 (.mv (.t 11)) 20 false, Qg 22 (.bin .lss (.t 21) (kI 0)) 20 false,
    Q 23 (.pick (.t 20) (kB true) (.t 22)), Qm 24 23, Qg 25 (.mv (.t 2)) 24 false, Qg 26 (.call 98 [.t 25, kI 0, kI 7] [] []) 24 false, Qg 27 (.not (.t 26)) 24 false,
    Q 28 (.pick (.t 24) (kB true) (.t 27)), Qm 29 28, Qg 30 (.load true 2 (.t 7)) 29 false, Qg 31 (.call 183 [.t 30] [] []) 29 false, Qg 32 (.not (.t 31)) 29 false,
    Q 33 (.pick (.t 29) (kB true) (.t 32))] [2,4,7,8,10,11,33] [4,7,8,10,11305,11306])
  (.cond (.t 33) (.seq (.reg [QL 34 7 10, Qs 7 8 34, Qb 9 false] [8,9] [8,11305,11306])
  (.ret)) (.skip)))
  (.seq (.regd [Qf 35 5 10, Ql 36 35, Qm 37 11, Qf 38 5 4, Ql 39 38, Qm 40 11, Qa 41 4 39 40, Qf 42 2 41, Ql 43 42, Qm 44 2, QL 45 2 7, Q 46 (.call 184 [.t 43, .t 44, .t 45] [] []), Qa 47 4 36 37,
    Qf 48 2 47, Qs 1 48 46] [[], [0], [], [], [3], [], [3,4,5], [3,4,5,6], [3,4,5,6,7], [], [], [3,4,5,6,7,8,9,10], lr 12, lr 13, lr 14] [8,10] [8,10,11305,11306])
  (.seq (.reg [QL 49 7 10, Qs 7 8 49, Qb 9 true] [8,9] [8,11305,11306])
  (.ret))))))
def spec_FlagMail.m : Fn := { np := 4, body := spec_FlagMail.b, res := [.cell 8 true 7, .tmp 9] }
def spec_FlagMail.k (M : Nat → Option Body) : Prop := M 84 = some (.code spec_FlagMail.m) ∧ spec_BoxOk.k M ∧ spec_MailAt.k M ∧ spec_l01In.k M ∧ spec_l06Copy.k M ∧ spec_StampOk.k M ∧ spec_SetFlags.k M
def spec_TakeOut.b : C := .seq (.reg [Qv 2 0, Q 4 (.alloc [.int .i64 0, .str ⟨#[]⟩, .int .i64 0, .int .i64 0, .int .i64 0, .nils 4, .nils 1]), Qb 5 false] [1,2,4] [2,4,27,32,38,10905,10906,14300])
  (.seq (.reg [QL 8 7 2, Q 9 (.call 180 [.t 8] [] [(5, 10905), (6, 10906)]), Q 6 (.alloc [.int .i64 0, .str ⟨#[]⟩, .int .i64 0, .int .i64 0, .int .i64 0, .nils 4, .nils 1]), Qs 7 6 9] [1,2,4,6] [2,4,6,27,32,38,10905,10906,14300])
  (.seq (.reg [QL 10 7 2, Qm 11 1, Q 12 (.call 91 [.t 10, .t 11] [] []), Qm 7 12] [1,2,4,6,7] [2,4,6,27,32,38,10905,10906,14300])
  (.seq (.seq (.reg [QL 13 7 2, Q 14 (.call 88 [.t 13] [] []), Q 15 (.not (.t 14)), Qm 16 15, Qg 17 (.mv (.t 7)) 16 false, Qg 18 (.bin .lss (.t 17) (kI 0)) 16 false,
    Q 19 (.pick (.t 16) (kB true) (.t 18)), Qm 20 19, Qg 21 (.faddr 6 (.t 2)) 20 false, Qg 22 (.load false 1 (.t 21)) 20 false, Qg 23 (.len (.t 22)) 20 false,
    Qg 24 (.bin .geq (.t 23) (kI 40)) 20 false, Q 25 (.pick (.t 20) (kB true) (.t 24))] [1,2,4,6,7,25] [2,4,6,27,32,38,10905,10906,14300])
  (.cond (.t 25) (.seq (.reg [QL 26 7 6, Qs 7 4 26, Qb 5 false] [4,5] [4,27,32,38,10905,10906,14300])
  (.ret)) (.skip)))
  (.seq (.regd [Q 27 (.bslice 4 0 [.int .i64 0, .int .i64 0, .nils 3, .str ⟨#[]⟩] []), Qf 28 5 6, Ql 29 28, Qm 30 7, Q 31 (.slc 4 (.t 29) none (some (.t 30)) none),
    Q 32 (.app 4 56 (.t 27) (.t 31)), Qf 33 5 6, Ql 34 33, Qm 35 7, Q 36 (.bin .add (.t 35) (kI 1)), Q 37 (.slc 4 (.t 34) (some (.t 36)) none none), Q 38 (.app 4 56 (.t 32) (.t 37)),
    Qf 39 5 6, Qs 1 39 38] [[], [], [1], [], [1,2,3], lr 5, [], [6], [], [8], [6,7,8,9], lr 11, lr 12, lr 13] [1,2,4,6] [2,4,6,27,32,38,10905,10906,14300])
  (.seq (.reg [Qf 40 6 2, Ql 41 40, Qm 42 1, Q 43 (.call 133 [.t 41, .t 42] [] [(0, 14300)]), Qf 44 6 6, Qs 1 44 43] [4,6] [4,6,27,32,38,10905,10906,14300])
  (.seq (.reg [QL 45 7 6, Qs 7 4 45, Qb 5 true] [4,5] [4,27,32,38,10905,10906,14300])
  (.ret)))))))
def spec_TakeOut.m : Fn := { np := 2, body := spec_TakeOut.b, res := [.cell 4 true 7, .tmp 5] }
def spec_TakeOut.k (M : Nat → Option Body) : Prop := M 86 = some (.code spec_TakeOut.m) ∧ spec_BoxOk.k M ∧ spec_MailAt.k M ∧ spec_l06Put.k M ∧ spec_l06Copy.k M
end Mx

namespace Mx
open Go
def spec_BoxAt.l0 : C := .seq (.seq (.reg [Qm 6 5, Qf 7 2 2, Ql 8 7, Q 9 (.len (.t 8)), Q 10 (.bin .lss (.t 6) (.t 9))] [1,2,5,10] [2])
  (.cond (.t 10) (.skip) (.exit 0)))
  (.seq (.block 1 (.seq (.reg [Qf 13 2 2, Ql 14 13, Qm 15 5, Qa 16 7 14 15, Qf 17 0 16, Ql 18 17, Qm 19 1, Q 20 (.bin .eql (.t 18) (.t 19))] [1,2,5,20] [2])
  (.cond (.t 20) (.seq (.reg [Qm 21 5, Qm 4 21] [4] [])
  (.ret)) (.skip))))
  (.reg [Qm 11 5, Q 12 (.bin .add (.t 11) (kI 1)), Qm 5 12] [1,2,5] [2]))
def spec_BoxAt.b : C := .seq (.reg [Qv 2 0, Qi 4 0] [1,2] [2])
  (.seq (.seq (.reg [Qi 5 0] [1,2,5] [2])
  (.block 0 (.loop spec_BoxAt.l0)))
  (.seq (.reg [Qi 4 (-1)] [4] [])
  (.ret)))
def spec_BoxAt.m : Fn := { np := 2, body := spec_BoxAt.b, res := [.tmp 4] }
def spec_BoxAt.k (M : Nat → Option Body) : Prop := M 196 = some (.code spec_BoxAt.m)
def spec_Knows.l0 : C := .seq (.seq (.reg [Qm 16 5, Qf 17 2 2, Ql 18 17, Q 19 (.len (.t 18)), Q 20 (.bin .lss (.t 16) (.t 19))] [1,2,5,20] [2])
  (.cond (.t 20) (.skip) (.exit 0)))
  (.seq (.block 1 (.seq (.reg [Qf 23 2 2, Ql 24 23, Qm 25 5, Qa 26 7 24 25, QL 27 7 26, Qm 28 1, Q 29 (.call 91 [.t 27, .t 28] [] []), Q 30 (.bin .geq (.t 29) (kI 0)), Qm 31 30, Qg 32 (.faddr 2 (.t 2)) 31 false,
    Qg 33 (.load false 1 (.t 32)) 31 false, Qg 34 (.mv (.t 5)) 31 false, Qg 35 (.iaddr 7 (.t 33) (.t 34)) 31 false, Qg 36 (.faddr 6 (.t 35)) 31 false,
    Qg 37 (.load false 1 (.t 36)) 31 false, Qg 38 (.mv (.t 1)) 31 false, Qg 39 (.call 132 [.t 37, .t 38] [] []) 31 false, Q 40 (.pick (.t 31) (kB true) (.t 39))] [1,2,5,40] [2])
  (.cond (.t 40) (.seq (.reg [Qb 4 true] [4] [])
  (.ret)) (.skip))))
  (.reg [Qm 21 5, Q 22 (.bin .add (.t 21) (kI 1)), Qm 5 22] [1,2,5] [2]))
def spec_Knows.b : C := .seq (.reg [Qv 2 0, Qb 4 false] [1,2] [2])
  (.seq (.seq (.reg [QL 6 4 2, Qm 7 1, Q 8 (.call 196 [.t 6, .t 7] [] []), Q 9 (.bin .geq (.t 8) (kI 0)), Qm 10 9, Qg 11 (.faddr 3 (.t 2)) 10 false, Qg 12 (.load false 1 (.t 11)) 10 false,
    Qg 13 (.mv (.t 1)) 10 false, Qg 14 (.call 132 [.t 12, .t 13] [] []) 10 false, Q 15 (.pick (.t 10) (kB true) (.t 14))] [1,2,15] [2])
  (.cond (.t 15) (.seq (.reg [Qb 4 true] [4] [])
  (.ret)) (.skip)))
  (.seq (.seq (.reg [Qi 5 0] [1,2,5] [2])
  (.block 0 (.loop spec_Knows.l0)))
  (.seq (.reg [Qb 4 false] [4] [])
  (.ret))))
def spec_Knows.m : Fn := { np := 2, body := spec_Knows.b, res := [.tmp 4] }
def spec_Knows.k (M : Nat → Option Body) : Prop := M 300 = some (.code spec_Knows.m) ∧ spec_MailAt.k M ∧ spec_l06In.k M ∧ spec_BoxAt.k M
def spec_NextStamp.b : C := .seq (.reg [Qv 1 0, Q 2 (.alloc [.int .i64 0, .int .i64 0])] [1,2] [1,2])
  (.seq (.reg [Qf 3 1 1, Ql 4 3, Q 5 (.bin .add (.t 4) (kI 1)), Qf 6 0 1, Ql 7 6, Q 8 (.build [.int .i64 0, .int .i64 0] [(0, 1, .t 5), (1, 1, .t 7)]), Qs 2 2 8] [2] [2])
  (.ret))
def spec_NextStamp.m : Fn := { np := 1, body := spec_NextStamp.b, res := [.cell 2 true 2] }
def spec_NextStamp.k (M : Nat → Option Body) : Prop := M 301 = some (.code spec_NextStamp.m)
def spec_l07Copy.l0 : C := .seq (.seq (.reg [Qm 8 4, Qf 9 2 1, Ql 10 9, Q 11 (.len (.t 10)), Q 12 (.bin .lss (.t 8) (.t 11))] [1,2,3,4,12] [1,2,3,6,24,26,29])
  (.cond (.t 12) (.skip) (.exit 0)))
  (.seq (.block 1 (.regd [Qf 15 2 3, Ql 16 15, Qf 17 2 1, Ql 18 17, Qm 19 4, Qa 20 7 18 19, QL 21 7 20, Q 22 (.call 180 [.t 21] [] []),
    Q 23 (.bslice 7 1 [.int .i64 0, .str ⟨#[]⟩, .int .i64 0, .int .i64 0, .int .i64 0, .nils 4, .nils 1] [(0, .t 22)]), Q 24 (.app 7 96 (.t 16) (.t 23)), Qf 25 2 3, Qs 1 25 24] [[], [0], [], [2], [], [2,3,4], [2,3,4,5], [2,3,4,5,6], [2,3,4,5,6,7], lr 9, lr 10, lr 11] [1,2,3,4] [1,2,3,6,24,26,29]))
  (.reg [Qm 13 4, Q 14 (.bin .add (.t 13) (kI 1)), Qm 4 14] [1,2,3,4] [1,2,3,6,24,26,29]))
def spec_l07Copy.b : C := .seq (.reg [Qv 1 0, Q 2 (.alloc [.int .i64 0, .int .i64 0, .nils 7, .nils 1])] [1,2] [1,2,6,24,26,29])
  (.seq (.reg [QL 5 4 1, Q 3 (.alloc [.int .i64 0, .int .i64 0, .nils 7, .nils 1]), Qs 4 3 5] [1,2,3] [1,2,3,6,24,26,29])
  (.seq (.reg [Q 6 (.bslice 7 0 [.int .i64 0, .str ⟨#[]⟩, .int .i64 0, .int .i64 0, .int .i64 0, .nils 4, .nils 1] []), Qf 7 2 3, Qs 1 7 6] [1,2,3] [1,2,3,6,24,26,29])
  (.seq (.seq (.reg [Qi 4 0] [1,2,3,4] [1,2,3,6,24,26,29])
  (.block 0 (.loop spec_l07Copy.l0)))
  (.seq (.reg [Q 26 (.bslice 1 0 [.int .i64 0] []), Qf 27 3 1, Ql 28 27, Q 29 (.app 1 8 (.t 26) (.t 28)), Qf 30 3 3, Qs 1 30 29] [2,3] [2,3,6,24,26,29])
  (.seq (.reg [QL 31 4 3, Qs 4 2 31] [2] [2,6,24,26,29])
  (.ret))))))
def spec_l07Copy.m : Fn := { np := 1, body := spec_l07Copy.b, res := [.cell 2 true 4] }
def spec_l07Copy.k (M : Nat → Option Body) : Prop := M 219 = some (.code spec_l07Copy.m) ∧ spec_l06Copy.k M
def spec_MakeBox.l0 : C := .seq (.seq (.reg [Qm 37 10, Qf 38 2 3, Ql 39 38, Q 40 (.len (.t 39)), Q 41 (.bin .lss (.t 37) (.t 40))] [1,3,6,8,9,10,41] [3,6,8,9,30,61,67,93,12702,12703,12902,12903,20302,20303])
  (.cond (.t 41) (.skip) (.exit 0)))
  (.seq (.block 1 (.seq (.reg [Qf 44 2 3, Ql 45 44, Qm 46 10, Qa 47 7 45 46, Qf 48 0 47, Ql 49 48, Qm 50 1, Q 51 (.bin .lss (.t 49) (.t 50))] [1,3,6,8,9,10,51] [3,6,8,9,30,61,67,93,12702,12703,12902,12903,20302,20303])
  (.cond (.t 51) (.regd [Qf 52 2 8, Ql 53 52, Qf 54 2 3, Ql 55 54, Qm 56 10, Qa 57 7 55 56, QL 58 7 57, Q 59 (.call 180 [.t 58] [] []),
    Q 60 (.bslice 7 1 [.int .i64 0, .str ⟨#[]⟩, .int .i64 0, .int .i64 0, .int .i64 0, .nils 4, .nils 1] [(0, .t 59)]), Q 61 (.app 7 96 (.t 53) (.t 60)), Qf 62 2 8, Qs 1 62 61] [[], [0], [], [2], [], [2,3,4], [2,3,4,5], [2,3,4,5,6], [2,3,4,5,6,7], lr 9, lr 10, lr 11] [1,3,6,8,9,10] [3,6,8,9,30,61,67,93,12702,12703,12902,12903,20302,20303]) (.skip))))
  (.reg [Qm 42 10, Q 43 (.bin .add (.t 42) (kI 1)), Qm 10 43] [1,3,6,8,9,10] [3,6,8,9,30,61,67,93,12702,12703,12902,12903,20302,20303]))
def spec_MakeBox.l1 : C := .seq (.seq (.reg [Qm 69 11, Qf 70 2 3, Ql 71 70, Q 72 (.len (.t 71)), Q 73 (.bin .lss (.t 69) (.t 72))] [1,3,6,8,11,73] [3,6,8,30,61,67,93,12702,12703,12902,12903,20302,20303])
  (.cond (.t 73) (.skip) (.exit 2)))
  (.seq (.block 3 (.seq (.reg [Qf 76 2 3, Ql 77 76, Qm 78 11, Qa 79 7 77 78, Qf 80 0 79, Ql 81 80, Qm 82 1, Q 83 (.bin .gtr (.t 81) (.t 82))] [1,3,6,8,11,83] [3,6,8,30,61,67,93,12702,12703,12902,12903,20302,20303])
  (.cond (.t 83) (.regd [Qf 84 2 8, Ql 85 84, Qf 86 2 3, Ql 87 86, Qm 88 11, Qa 89 7 87 88, QL 90 7 89, Q 91 (.call 180 [.t 90] [] []),
    Q 92 (.bslice 7 1 [.int .i64 0, .str ⟨#[]⟩, .int .i64 0, .int .i64 0, .int .i64 0, .nils 4, .nils 1] [(0, .t 91)]), Q 93 (.app 7 96 (.t 85) (.t 92)), Qf 94 2 8, Qs 1 94 93] [[], [0], [], [2], [], [2,3,4], [2,3,4,5], [2,3,4,5,6], [2,3,4,5,6,7], lr 9, lr 10, lr 11] [1,3,6,8,11] [3,6,8,30,61,67,93,12702,12703,12902,12903,20302,20303]) (.skip))))
  (.reg [Qm 74 11, Q 75 (.bin .add (.t 74) (kI 1)), Qm 11 75] [1,3,6,8,11] [3,6,8,30,61,67,93,12702,12703,12902,12903,20302,20303]))
def spec_MakeBox.b : C := .seq (.reg [Qv 3 0, Q 6 (.alloc [.int .i64 0, .int .i64 0, .nils 7, .nils 1]), Qb 7 false] [1,2,3,6] [3,6,30,61,67,93,12702,12703,12902,12903,20302,20303])
  (.seq (.seq (.reg [QL 12 4 3, Q 13 (.call 149 [.t 12] [] []), Q 14 (.not (.t 13)), Qm 15 14, Qg 16 (.load true 4 (.t 3)) 15 false, Qg 17 (.mv (.t 1)) 15 false,
    Qg 18 (.call 300 [.t 16, .t 17] [] []) 15 false, Q 19 (.pick (.t 15) (kB true) (.t 18)), Qm 20 19, Qg 21 (.load true 4 (.t 3)) 20 false, Qg 22 (.mv (.t 2)) 20 false,
    Qg 23 (.call 226 [.t 21, .t 22] [] []) 20 false, Qg 24 (.bin .geq (.t 23) (kI 0)) 20 false, Q 25 (.pick (.t 20) (kB true) (.t 24))] [1,2,3,6,25] [3,6,30,61,67,93,12702,12703,12902,12903,20302,20303])
  (.cond (.t 25) (.seq (.reg [QL 26 4 3, Q 27 (.call 219 [.t 26] [] [(2, 12702), (3, 12703)]), Qs 4 6 27, Qb 7 false] [6,7] [6,30,61,67,93,12702,12703,12902,12903,20302,20303])
  (.ret)) (.skip)))
  (.seq (.reg [QL 28 4 3, Q 29 (.call 219 [.t 28] [] [(2, 12902), (3, 12903)]), Q 8 (.alloc [.int .i64 0, .int .i64 0, .nils 7, .nils 1]), Qs 4 8 29] [1,2,3,6,8] [3,6,8,30,61,67,93,12702,12703,12902,12903,20302,20303])
  (.seq (.reg [Q 30 (.bslice 7 0 [.int .i64 0, .str ⟨#[]⟩, .int .i64 0, .int .i64 0, .int .i64 0, .nils 4, .nils 1] []), Qf 31 2 8, Qs 1 31 30] [1,2,3,6,8] [3,6,8,30,61,67,93,12702,12703,12902,12903,20302,20303])
  (.seq (.reg [Qm 32 1, Qm 33 2, QL 34 4 3, Q 35 (.call 301 [.t 34] [] []),
    Q 36 (.build [.int .i64 0, .str ⟨#[]⟩, .int .i64 0, .int .i64 0, .int .i64 0, .nils 4, .nils 1] [(0, 1, .t 32), (1, 1, .t 33), (2, 2, .t 35), (4, 1, kI 1)]),
    Q 9 (.alloc [.int .i64 0, .str ⟨#[]⟩, .int .i64 0, .int .i64 0, .int .i64 0, .nils 4, .nils 1]), Qs 7 9 36] [1,3,6,8,9] [3,6,8,9,30,61,67,93,12702,12703,12902,12903,20302,20303])
  (.seq (.seq (.reg [Qi 10 0] [1,3,6,8,9,10] [3,6,8,9,30,61,67,93,12702,12703,12902,12903,20302,20303])
  (.block 0 (.loop spec_MakeBox.l0)))
  (.seq (.reg [Qf 63 2 8, Ql 64 63, QL 65 7 9, Q 66 (.bslice 7 1 [.int .i64 0, .str ⟨#[]⟩, .int .i64 0, .int .i64 0, .int .i64 0, .nils 4, .nils 1] [(0, .t 65)]), Q 67 (.app 7 96 (.t 64) (.t 66)),
    Qf 68 2 8, Qs 1 68 67] [1,3,6,8] [3,6,8,30,61,67,93,12702,12703,12902,12903,20302,20303])
  (.seq (.seq (.reg [Qi 11 0] [1,3,6,8,11] [3,6,8,30,61,67,93,12702,12703,12902,12903,20302,20303])
  (.block 2 (.loop spec_MakeBox.l1)))
  (.seq (.reg [Qf 95 1 3, Ql 96 95, Q 97 (.bin .add (.t 96) (kI 1)), Qf 98 1 8, Qs 1 98 97] [3,6,8] [3,6,8,30,61,67,93,12702,12703,12902,12903,20302,20303])
  (.seq (.seq (.reg [QL 99 4 8, Q 100 (.call 149 [.t 99] [] []), Q 101 (.not (.t 100))] [3,6,8,101] [3,6,8,30,61,67,93,12702,12703,12902,12903,20302,20303])
  (.cond (.t 101) (.seq (.reg [QL 102 4 3, Q 103 (.call 219 [.t 102] [] [(2, 20302), (3, 20303)]), Qs 4 6 103, Qb 7 false] [6,7] [6,30,61,67,93,12702,12703,12902,12903,20302,20303])
  (.ret)) (.skip)))
  (.seq (.reg [QL 104 4 8, Qs 4 6 104, Qb 7 true] [6,7] [6,30,61,67,93,12702,12703,12902,12903,20302,20303])
  (.ret)))))))))))
def spec_MakeBox.m : Fn := { np := 3, body := spec_MakeBox.b, res := [.cell 6 true 4, .tmp 7] }
def spec_MakeBox.k (M : Nat → Option Body) : Prop := M 278 = some (.code spec_MakeBox.m) ∧ spec_StoreOk.k M ∧ spec_l06Copy.k M ∧ spec_l07Copy.k M ∧ spec_BoxNamed.k M ∧ spec_Knows.k M ∧ spec_NextStamp.k M
def spec_RenameBox.b : C := .seq (.reg [Qv 3 0, Q 6 (.alloc [.int .i64 0, .int .i64 0, .nils 7, .nils 1]), Qb 7 false] [1,2,3,6] [3,6,11102,11103,15002,15003])
  (.seq (.reg [QL 10 4 3, Q 11 (.call 219 [.t 10] [] [(2, 11102), (3, 11103)]), Q 8 (.alloc [.int .i64 0, .int .i64 0, .nils 7, .nils 1]), Qs 4 8 11] [1,2,3,6,8] [3,6,8,11102,11103,15002,15003])
  (.seq (.reg [QL 12 4 3, Qm 13 1, Q 14 (.call 196 [.t 12, .t 13] [] []), Qm 9 14] [2,3,6,8,9] [3,6,8,11102,11103,15002,15003])
  (.seq (.seq (.reg [QL 15 4 3, Q 16 (.call 149 [.t 15] [] []), Q 17 (.not (.t 16)), Qm 18 17, Qg 19 (.mv (.t 9)) 18 false, Qg 20 (.bin .lss (.t 19) (kI 0)) 18 false,
    Q 21 (.pick (.t 18) (kB true) (.t 20)), Qm 22 21, Qg 23 (.load true 4 (.t 3)) 22 false, Qg 24 (.mv (.t 2)) 22 false, Qg 25 (.call 226 [.t 23, .t 24] [] []) 22 false,
    Qg 26 (.bin .geq (.t 25) (kI 0)) 22 false, Q 27 (.pick (.t 22) (kB true) (.t 26))] [2,3,6,8,9,27] [3,6,8,11102,11103,15002,15003])
  (.cond (.t 27) (.seq (.reg [QL 28 4 8, Qs 4 6 28, Qb 7 false] [6,7] [6,11102,11103,15002,15003])
  (.ret)) (.skip)))
  (.seq (.reg [Qf 29 2 8, Ql 30 29, Qm 31 9, Qm 32 2, Qa 33 7 30 31, Qf 34 1 33, Qs 1 34 32] [3,6,8,9] [3,6,8,11102,11103,15002,15003])
  (.seq (.regd [Qf 35 2 8, Ql 36 35, Qm 37 9, QL 38 4 3, Q 39 (.call 301 [.t 38] [] []), Qa 40 7 36 37, Qf 41 2 40, Qs 2 41 39] [[], [0], [], [], [3], lr 5, lr 6, lr 7] [3,6,8] [3,6,8,11102,11103,15002,15003])
  (.seq (.reg [Qf 42 1 3, Ql 43 42, Q 44 (.bin .add (.t 43) (kI 1)), Qf 45 1 8, Qs 1 45 44] [3,6,8] [3,6,8,11102,11103,15002,15003])
  (.seq (.seq (.reg [QL 46 4 8, Q 47 (.call 149 [.t 46] [] []), Q 48 (.not (.t 47))] [3,6,8,48] [3,6,8,11102,11103,15002,15003])
  (.cond (.t 48) (.seq (.reg [QL 49 4 3, Q 50 (.call 219 [.t 49] [] [(2, 15002), (3, 15003)]), Qs 4 6 50, Qb 7 false] [6,7] [6,11102,11103,15002,15003])
  (.ret)) (.skip)))
  (.seq (.reg [QL 51 4 8, Qs 4 6 51, Qb 7 true] [6,7] [6,11102,11103,15002,15003])
  (.ret)))))))))
def spec_RenameBox.m : Fn := { np := 3, body := spec_RenameBox.b, res := [.cell 6 true 4, .tmp 7] }
def spec_RenameBox.k (M : Nat → Option Body) : Prop := M 282 = some (.code spec_RenameBox.m) ∧ spec_StoreOk.k M ∧ spec_BoxAt.k M ∧ spec_l07Copy.k M ∧ spec_BoxNamed.k M ∧ spec_NextStamp.k M
def spec_DropBox.b : C := .seq (.reg [Qv 2 0, Q 4 (.alloc [.int .i64 0, .int .i64 0, .nils 7, .nils 1]), Qb 5 false] [1,2,4] [2,4,27,32,38,10902,10903,14300])
  (.seq (.reg [QL 8 4 2, Q 9 (.call 219 [.t 8] [] [(2, 10902), (3, 10903)]), Q 6 (.alloc [.int .i64 0, .int .i64 0, .nils 7, .nils 1]), Qs 4 6 9] [1,2,4,6] [2,4,6,27,32,38,10902,10903,14300])
  (.seq (.reg [QL 10 4 2, Qm 11 1, Q 12 (.call 196 [.t 10, .t 11] [] []), Qm 7 12] [1,2,4,6,7] [2,4,6,27,32,38,10902,10903,14300])
  (.seq (.seq (.reg [QL 13 4 2, Q 14 (.call 149 [.t 13] [] []), Q 15 (.not (.t 14)), Qm 16 15, Qg 17 (.mv (.t 7)) 16 false, Qg 18 (.bin .lss (.t 17) (kI 0)) 16 false,
    Q 19 (.pick (.t 16) (kB true) (.t 18)), Qm 20 19, Qg 21 (.faddr 3 (.t 2)) 20 false, Qg 22 (.load false 1 (.t 21)) 20 false, Qg 23 (.len (.t 22)) 20 false,
    Qg 24 (.bin .geq (.t 23) (kI 20)) 20 false, Q 25 (.pick (.t 20) (kB true) (.t 24))] [1,2,4,6,7,25] [2,4,6,27,32,38,10902,10903,14300])
  (.cond (.t 25) (.seq (.reg [QL 26 4 6, Qs 4 4 26, Qb 5 false] [4,5] [4,27,32,38,10902,10903,14300])
  (.ret)) (.skip)))
  (.seq (.regd [Q 27 (.bslice 7 0 [.int .i64 0, .str ⟨#[]⟩, .int .i64 0, .int .i64 0, .int .i64 0, .nils 4, .nils 1] []), Qf 28 2 6, Ql 29 28, Qm 30 7,
    Q 31 (.slc 7 (.t 29) none (some (.t 30)) none), Q 32 (.app 7 96 (.t 27) (.t 31)), Qf 33 2 6, Ql 34 33, Qm 35 7, Q 36 (.bin .add (.t 35) (kI 1)),
    Q 37 (.slc 7 (.t 34) (some (.t 36)) none none), Q 38 (.app 7 96 (.t 32) (.t 37)), Qf 39 2 6, Qs 1 39 38] [[], [], [1], [], [1,2,3], lr 5, [], [6], [], [8], [6,7,8,9], lr 11, lr 12, lr 13] [1,2,4,6] [2,4,6,27,32,38,10902,10903,14300])
  (.seq (.reg [Qf 40 3 2, Ql 41 40, Qm 42 1, Q 43 (.call 133 [.t 41, .t 42] [] [(0, 14300)]), Qf 44 3 6, Qs 1 44 43] [4,6] [4,6,27,32,38,10902,10903,14300])
  (.seq (.reg [QL 45 4 6, Qs 4 4 45, Qb 5 true] [4,5] [4,27,32,38,10902,10903,14300])
  (.ret)))))))
def spec_DropBox.m : Fn := { np := 2, body := spec_DropBox.b, res := [.cell 4 true 4, .tmp 5] }
def spec_DropBox.k (M : Nat → Option Body) : Prop := M 283 = some (.code spec_DropBox.m) ∧ spec_l06Put.k M ∧ spec_StoreOk.k M ∧ spec_BoxAt.k M ∧ spec_l07Copy.k M
def spec_l07Stamped.b : C := .seq (.reg [Qv 3 0, Qv 5 2, Q 6 (.alloc [.int .i64 0, .int .i64 0, .nils 7, .nils 1]), Qb 7 false] [1,3,5,6] [3,5,6,11002,11003,12402,12403])
  (.seq (.reg [QL 9 4 3, Q 10 (.call 219 [.t 9] [] [(2, 11002), (3, 11003)]), Q 8 (.alloc [.int .i64 0, .int .i64 0, .nils 7, .nils 1]), Qs 4 8 10] [1,3,5,6,8] [3,5,6,8,11002,11003,12402,12403])
  (.seq (.reg [Qf 11 2 8, Ql 12 11, Qm 13 1, QL 14 7 5, Qa 15 7 12 13, Qs 7 15 14] [3,6,8] [3,6,8,11002,11003,12402,12403])
  (.seq (.reg [Qf 16 1 3, Ql 17 16, Q 18 (.bin .add (.t 17) (kI 1)), Qf 19 1 8, Qs 1 19 18] [3,6,8] [3,6,8,11002,11003,12402,12403])
  (.seq (.seq (.reg [QL 20 4 8, Q 21 (.call 149 [.t 20] [] []), Q 22 (.not (.t 21))] [3,6,8,22] [3,6,8,11002,11003,12402,12403])
  (.cond (.t 22) (.seq (.reg [QL 23 4 3, Q 24 (.call 219 [.t 23] [] [(2, 12402), (3, 12403)]), Qs 4 6 24, Qb 7 false] [6,7] [6,11002,11003,12402,12403])
  (.ret)) (.skip)))
  (.seq (.reg [QL 25 4 8, Qs 4 6 25, Qb 7 true] [6,7] [6,11002,11003,12402,12403])
  (.ret))))))
def spec_l07Stamped.m : Fn := { np := 3, body := spec_l07Stamped.b, res := [.cell 6 true 4, .tmp 7] }
def spec_l07Stamped.k (M : Nat → Option Body) : Prop := M 302 = some (.code spec_l07Stamped.m) ∧ spec_StoreOk.k M ∧ spec_l07Copy.k M
def spec_PutMail.b : C := .seq (.reg [Qv 5 0, Q 10 (.alloc [.int .i64 0, .int .i64 0, .nils 7, .nils 1]), Qb 11 false] [1,2,3,4,5,10] [5,10,13102,13103,14902,14903,15302,15303])
  (.seq (.reg [QL 15 4 5, Qm 16 1, Q 17 (.call 196 [.t 15, .t 16] [] []), Qm 12 17] [2,3,4,5,10,12] [5,10,13102,13103,14902,14903,15302,15303])
  (.seq (.seq (.reg [QL 18 4 5, Q 19 (.call 149 [.t 18] [] []), Q 20 (.not (.t 19)), Qm 21 20, Qg 22 (.load true 4 (.t 5)) 21 false, Qg 23 (.mv (.t 2)) 21 false,
    Qg 24 (.call 300 [.t 22, .t 23] [] []) 21 false, Q 25 (.pick (.t 21) (kB true) (.t 24)), Qm 26 25, Qg 27 (.mv (.t 12)) 26 false, Qg 28 (.bin .lss (.t 27) (kI 0)) 26 false,
    Q 29 (.pick (.t 26) (kB true) (.t 28))] [2,3,4,5,10,12,29] [5,10,13102,13103,14902,14903,15302,15303])
  (.cond (.t 29) (.seq (.reg [QL 30 4 5, Q 31 (.call 219 [.t 30] [] [(2, 13102), (3, 13103)]), Qs 4 10 31, Qb 11 false] [10,11] [10,13102,13103,14902,14903,15302,15303])
  (.ret)) (.skip)))
  (.seq (.regd [Qf 33 2 5, Ql 34 33, Qm 35 12, Qa 36 7 34 35, QL 37 7 36, Qm 38 2, Qm 39 3, Qm 40 4, QL 41 4 5, Q 42 (.call 301 [.t 41] [] []),
    Q 43 (.call 81 [.t 37, .t 38, .t 39, .t 40, .t 42] [] []), Qm 32 43, Qx 44 0 32, Qx 45 1 32,
    Q 13 (.alloc [.int .i64 0, .str ⟨#[]⟩, .int .i64 0, .int .i64 0, .int .i64 0, .nils 4, .nils 1]), Qs 7 13 44, Qm 14 45] [[], [0], [], [0,1,2], lr 4, [], [], [], [], [8], lr 10, lr 11, lr 12, lr 12, [], lr 13 ++ [14], lr 16] [5,10,12,13,14] [5,10,13,13102,13103,14902,14903,15302,15303])
  (.seq (.seq (.reg [Qm 46 14, Q 47 (.not (.t 46))] [5,10,12,13,47] [5,10,13,13102,13103,14902,14903,15302,15303])
  (.cond (.t 47) (.seq (.reg [QL 48 4 5, Q 49 (.call 219 [.t 48] [] [(2, 14902), (3, 14903)]), Qs 4 10 49, Qb 11 false] [10,11] [10,13102,13103,14902,14903,15302,15303])
  (.ret)) (.skip)))
  (.seq (.reg [QL 50 4 5, Qm 51 12, QL 52 7 13, Q 53 (.call 302 [.t 50, .t 51, .t 52] [] [(2, 15302), (3, 15303)]), Qx 54 0 53, Qx 55 1 53, Qs 4 10 54, Qm 11 55] [10,11] [10,13102,13103,14902,14903,15302,15303])
  (.ret))))))
def spec_PutMail.m : Fn := { np := 5, body := spec_PutMail.b, res := [.cell 10 true 4, .tmp 11] }
def spec_PutMail.k (M : Nat → Option Body) : Prop := M 279 = some (.code spec_PutMail.m) ∧ spec_AddMail.k M ∧ spec_StoreOk.k M ∧ spec_BoxAt.k M ∧ spec_l07Copy.k M ∧ spec_Knows.k M ∧ spec_NextStamp.k M ∧ spec_l07Stamped.k M
def spec_MarkMail.b : C := .seq (.reg [Qv 4 0, Q 8 (.alloc [.int .i64 0, .int .i64 0, .nils 7, .nils 1]), Qb 9 false] [1,2,3,4,8] [4,8,12402,12403,14102,14103,14502,14503])
  (.seq (.reg [QL 13 4 4, Qm 14 1, Q 15 (.call 196 [.t 13, .t 14] [] []), Qm 10 15] [2,3,4,8,10] [4,8,12402,12403,14102,14103,14502,14503])
  (.seq (.seq (.reg [QL 16 4 4, Q 17 (.call 149 [.t 16] [] []), Q 18 (.not (.t 17)), Qm 19 18, Qg 20 (.mv (.t 10)) 19 false, Qg 21 (.bin .lss (.t 20) (kI 0)) 19 false,
    Q 22 (.pick (.t 19) (kB true) (.t 21))] [2,3,4,8,10,22] [4,8,12402,12403,14102,14103,14502,14503])
  (.cond (.t 22) (.seq (.reg [QL 23 4 4, Q 24 (.call 219 [.t 23] [] [(2, 12402), (3, 12403)]), Qs 4 8 24, Qb 9 false] [8,9] [8,12402,12403,14102,14103,14502,14503])
  (.ret)) (.skip)))
  (.seq (.regd [Qf 26 2 4, Ql 27 26, Qm 28 10, Qa 29 7 27 28, QL 30 7 29, Qm 31 2, Qm 32 3, QL 33 4 4, Q 34 (.call 301 [.t 33] [] []), Q 35 (.call 84 [.t 30, .t 31, .t 32, .t 34] [] []), Qm 25 35,
    Qx 36 0 25, Qx 37 1 25, Q 11 (.alloc [.int .i64 0, .str ⟨#[]⟩, .int .i64 0, .int .i64 0, .int .i64 0, .nils 4, .nils 1]), Qs 7 11 36, Qm 12 37] [[], [0], [], [0,1,2], lr 4, [], [], [], [7], lr 9, lr 10, lr 11, lr 11, [], lr 12 ++ [13], lr 15] [4,8,10,11,12] [4,8,11,12402,12403,14102,14103,14502,14503])
  (.seq (.seq (.reg [Qm 38 12, Q 39 (.not (.t 38))] [4,8,10,11,39] [4,8,11,12402,12403,14102,14103,14502,14503])
  (.cond (.t 39) (.seq (.reg [QL 40 4 4, Q 41 (.call 219 [.t 40] [] [(2, 14102), (3, 14103)]), Qs 4 8 41, Qb 9 false] [8,9] [8,12402,12403,14102,14103,14502,14503])
  (.ret)) (.skip)))
  (.seq (.reg [QL 42 4 4, Qm 43 10, QL 44 7 11, Q 45 (.call 302 [.t 42, .t 43, .t 44] [] [(2, 14502), (3, 14503)]), Qx 46 0 45, Qx 47 1 45, Qs 4 8 46, Qm 9 47] [8,9] [8,12402,12403,14102,14103,14502,14503])
  (.ret))))))
def spec_MarkMail.m : Fn := { np := 4, body := spec_MarkMail.b, res := [.cell 8 true 4, .tmp 9] }
def spec_MarkMail.k (M : Nat → Option Body) : Prop := M 280 = some (.code spec_MarkMail.m) ∧ spec_FlagMail.k M ∧ spec_StoreOk.k M ∧ spec_BoxAt.k M ∧ spec_l07Copy.k M ∧ spec_NextStamp.k M ∧ spec_l07Stamped.k M
def spec_DropMail.b : C := .seq (.reg [Qv 3 0, Q 6 (.alloc [.int .i64 0, .int .i64 0, .nils 7, .nils 1]), Qb 7 false] [1,2,3,6] [3,6,11302,11303])
  (.seq (.reg [QL 12 4 3, Q 13 (.call 219 [.t 12] [] [(2, 11302), (3, 11303)]), Q 8 (.alloc [.int .i64 0, .int .i64 0, .nils 7, .nils 1]), Qs 4 8 13] [1,2,3,6,8] [3,6,8,11302,11303])
  (.seq (.reg [QL 14 4 3, Qm 15 1, Q 16 (.call 196 [.t 14, .t 15] [] []), Qm 9 16] [2,3,6,8,9] [3,6,8,11302,11303])
  (.seq (.seq (.reg [QL 17 4 3, Q 18 (.call 149 [.t 17] [] []), Q 19 (.not (.t 18)), Qm 20 19, Qg 21 (.mv (.t 9)) 20 false, Qg 22 (.bin .lss (.t 21) (kI 0)) 20 false,
    Q 23 (.pick (.t 20) (kB true) (.t 22))] [2,3,6,8,9,23] [3,6,8,11302,11303])
  (.cond (.t 23) (.seq (.reg [QL 24 4 8, Qs 4 6 24, Qb 7 false] [6,7] [6,11302,11303])
  (.ret)) (.skip)))
  (.seq (.reg [Qf 26 2 3, Ql 27 26, Qm 28 9, Qa 29 7 27 28, QL 30 7 29, Qm 31 2, Q 32 (.call 86 [.t 30, .t 31] [] []), Qm 25 32, Qx 33 0 25, Qx 34 1 25,
    Q 10 (.alloc [.int .i64 0, .str ⟨#[]⟩, .int .i64 0, .int .i64 0, .int .i64 0, .nils 4, .nils 1]), Qs 7 10 33, Qm 11 34] [6,8,9,10,11] [6,8,10,11302,11303])
  (.seq (.seq (.reg [Qm 35 11, Q 36 (.not (.t 35))] [6,8,9,10,36] [6,8,10,11302,11303])
  (.cond (.t 36) (.seq (.reg [QL 37 4 8, Qs 4 6 37, Qb 7 false] [6,7] [6,11302,11303])
  (.ret)) (.skip)))
  (.seq (.reg [Qf 38 2 8, Ql 39 38, Qm 40 9, QL 41 7 10, Qa 42 7 39 40, Qs 7 42 41] [6,8] [6,8,11302,11303])
  (.seq (.reg [QL 43 4 8, Qs 4 6 43, Qb 7 true] [6,7] [6,11302,11303])
  (.ret))))))))
def spec_DropMail.m : Fn := { np := 3, body := spec_DropMail.b, res := [.cell 6 true 4, .tmp 7] }
def spec_DropMail.k (M : Nat → Option Body) : Prop := M 281 = some (.code spec_DropMail.m) ∧ spec_TakeOut.k M ∧ spec_StoreOk.k M ∧ spec_BoxAt.k M ∧ spec_l07Copy.k M
end Mx

namespace Mx
open Go
def spec_l01New.l0 : C := .seq (.seq (.reg [Qm 8 4, Qm 9 0, Q 10 (.len (.t 9)), Q 11 (.bin .lss (.t 8) (.t 10)), Qm 12 11, Qg 13 (.mv (.t 4)) 12 true, Qg 14 (.bin .lss (.t 13) (kI 4000)) 12 true,
    Q 15 (.pick (.t 12) (.t 14) (kB false))] [0,3,4,15] [])
  (.cond (.t 15) (.skip) (.exit 0)))
  (.seq (.block 1 (.reg [Qm 18 3, Q 19 (.bin .mul (.t 18) (kI 131)), Qm 20 0, Qm 21 4, Qa 22 1 20 21, Ql 23 22, Q 24 (.i2i .i64 (.t 23)), Q 25 (.bin .add (.t 19) (.t 24)), Q 26 (.bin .add (.t 25) (kI 7)),
    Q 27 (.bin .and (.t 26) (kI 1073741823)), Qm 3 27] [0,3,4] []))
  (.reg [Qm 16 4, Q 17 (.bin .add (.t 16) (kI 1)), Qm 4 17] [0,3,4] []))
def spec_l01New.b : C := .seq (.reg [Q 2 (.np)] [0] [])
  (.seq (.reg [Qm 5 0, Q 6 (.len (.t 5)), Q 7 (.bin .add (kI 77201) (.t 6)), Qm 3 7] [0,3] [])
  (.seq (.seq (.reg [Qi 4 0] [0,3,4] [])
  (.block 0 (.loop spec_l01New.l0)))
  (.seq (.reg [Qm 28 0, Qm 29 3, Q 30 (.build [.nils 1, .int .i64 0, .int .i64 0] [(0, 1, .t 28), (2, 1, .t 29)]), Qv 31 30, Qm 2 31] [2] [31])
  (.ret))))
def spec_l01New.m : Fn := { np := 1, body := spec_l01New.b, res := [.tmp 2] }
def spec_l01New.k (M : Nat → Option Body) : Prop := M 124 = some (.code spec_l01New.m)
def spec_l01Byte.b : C := .seq (.reg [Qi 2 0] [0] [0])
  (.seq (.reg [Qm 4 0, Qm 5 0, Q 6 (.nilc (.t 5)), Qf 7 2 6, Ql 8 7, Q 9 (.bin .mul (.t 8) (kI 6364136223846793005)), Q 10 (.bin .add (.t 9) (kI 1442695040888963407)), Q 11 (.nilc (.t 4)),
    Qf 12 2 11, Qs 1 12 10] [0] [0])
  (.seq (.regd [Qm 13 0, Q 14 (.nilc (.t 13)), Qf 15 2 14, Ql 16 15, Q 17 (.bin .shr (.t 16) (.k (.int .u64 33))), Qm 18 0, Q 19 (.nilc (.t 18)), Qf 20 2 19, Ql 21 20,
    Q 22 (.bin .shr (.t 21) (.k (.int .u64 45))), Q 23 (.bin .xor (.t 17) (.t 22)), Q 24 (.bin .and (.t 23) (kI 255)), Qm 3 24] [[], [0], [0,1], [0,1,2], lr 4, [], [5], [5,6], [5,6,7], [5,6,7,8], lr 10, lr 11, lr 12] [0,3] [0])
  (.seq (.seq (.regd [Qm 25 0, Q 26 (.nilc (.t 25)), Qf 27 1 26, Ql 28 27, Qm 29 0, Q 30 (.nilc (.t 29)), Qf 31 0 30, Ql 32 31, Q 33 (.len (.t 32)), Q 34 (.bin .lss (.t 28) (.t 33))] [[], [0], [0,1], [0,1,2], [], [4], [4,5], [4,5,6], [4,5,6,7], lr 9] [0,3,34] [0])
  (.cond (.t 34) (.seq (.regd [Qm 35 3, Qm 36 0, Q 37 (.nilc (.t 36)), Qf 38 0 37, Ql 39 38, Qm 40 0, Q 41 (.nilc (.t 40)), Qf 42 1 41, Ql 43 42, Qa 44 1 39 43, Ql 45 44, Q 46 (.i2i .i64 (.t 45)),
    Q 47 (.bin .add (.t 35) (.t 46)), Q 48 (.bin .and (.t 47) (kI 255)), Qm 3 48] [[], [], [1], [1,2], [1,2,3], [], [5], [5,6], [5,6,7], [1,2,3,4,5,6,7,8], [1,2,3,4,5,6,7,8,9], [1,2,3,4,5,6,7,8,9,10], lr 12, lr 13, lr 14] [0,3] [0])
  (.reg [Qm 49 0, Qm 50 0, Q 51 (.nilc (.t 50)), Qf 52 1 51, Ql 53 52, Q 54 (.bin .add (.t 53) (kI 1)), Q 55 (.nilc (.t 49)), Qf 56 1 55, Qs 1 56 54] [3] [0])) (.skip)))
  (.seq (.reg [Qm 57 3, Qm 2 57] [2] [0])
  (.ret)))))
def spec_l01Byte.m : Fn := { np := 1, body := spec_l01Byte.b, res := [.tmp 2] }
def spec_l01Byte.k (M : Nat → Option Body) : Prop := M 131 = some (.code spec_l01Byte.m)
def spec_l01Below.b : C := .seq (.reg [Qi 4 0] [0,1] [0])
  (.seq (.seq (.reg [Qm 9 1, Q 10 (.bin .leq (.t 9) (kI 0))] [0,1,10] [0])
  (.cond (.t 10) (.seq (.reg [Qi 4 0] [4] [0])
  (.ret)) (.skip)))
  (.seq (.seq (.reg [Qm 11 1, Q 12 (.bin .leq (.t 11) (kI 256))] [0,1,12] [0])
  (.cond (.t 12) (.seq (.reg [Qm 13 0, Q 14 (.call 131 [.t 13] [0] []), Qm 15 1, Q 16 (.bin .rem (.t 14) (.t 15)), Qm 4 16] [4] [0])
  (.ret)) (.skip)))
  (.seq (.reg [Qm 17 0, Q 18 (.call 131 [.t 17] [0] []), Qm 5 18] [0,1,5] [0])
  (.seq (.reg [Qm 19 0, Q 20 (.call 131 [.t 19] [0] []), Qm 6 20] [0,1,5,6] [0])
  (.seq (.reg [Qm 21 0, Q 22 (.call 131 [.t 21] [0] []), Qm 7 22] [0,1,5,6,7] [0])
  (.seq (.reg [Qm 23 0, Q 24 (.call 131 [.t 23] [0] []), Qm 8 24] [1,5,6,7,8] [0])
  (.seq (.reg [Qm 25 5, Q 26 (.bin .mul (.t 25) (kI 16777216)), Qm 27 6, Q 28 (.bin .mul (.t 27) (kI 65536)), Q 29 (.bin .add (.t 26) (.t 28)), Qm 30 7, Q 31 (.bin .mul (.t 30) (kI 256)),
    Q 32 (.bin .add (.t 29) (.t 31)), Qm 33 8, Q 34 (.bin .add (.t 32) (.t 33)), Qm 35 1, Q 36 (.bin .rem (.t 34) (.t 35)), Qm 4 36] [4] [0])
  (.ret))))))))
def spec_l01Below.m : Fn := { np := 2, body := spec_l01Below.b, res := [.tmp 4] }
def spec_l01Below.k (M : Nat → Option Body) : Prop := M 125 = some (.code spec_l01Below.m) ∧ spec_l01Byte.k M
def spec_l01Pick.b : C := .seq (.reg [Q 4 (.mv (.k (.str ⟨#[]⟩)))] [0,1] [0])
  (.seq (.reg [Qm 5 1, Qm 6 0, Qm 7 1, Q 8 (.len (.t 7)), Q 9 (.call 125 [.t 6, .t 8] [0] []), Qa 10 1 5 9, Ql 11 10, Qm 4 11] [4] [0])
  (.ret))
def spec_l01Pick.m : Fn := { np := 2, body := spec_l01Pick.b, res := [.tmp 4] }
def spec_l01Pick.k (M : Nat → Option Body) : Prop := M 185 = some (.code spec_l01Pick.m) ∧ spec_l01Below.k M
def spec_l05Text.b : C := .seq (.reg [Q 2 (.mv (.k (.str ⟨#[]⟩)))] [0] [0])
  (.seq (.reg [Qm 3 0,
    Q 4 (.bslf 1 6 [.str ⟨#[]⟩] [(0, .k (.str ⟨#[104,101,108,108,111]⟩)), (1, .k (.str ⟨#[104,105,10]⟩)), (2, .k (.str ⟨#[]⟩)), (3, .k (.str ⟨#[116,101,120,116,32,111,102,32,105,116]⟩)), (4, .k (.str ⟨#[0,255]⟩)), (5, .k (.str ⟨#[97,32,98]⟩))]),
    Q 5 (.call 185 [.t 3, .t 4] [0] []), Qm 2 5] [2] [0])
  (.ret))
def spec_l05Text.m : Fn := { np := 1, body := spec_l05Text.b, res := [.tmp 2] }
def spec_l05Text.k (M : Nat → Option Body) : Prop := M 174 = some (.code spec_l05Text.m) ∧ spec_l01Pick.k M
end Mx

namespace Mx
open Go
def laws_big.b : C := .seq (.reg [Qb 2 false] [0] [])
  (.seq (.reg [Qm 3 0, Q 4 (.len (.t 3)), Q 5 (.bin .gtr (.t 4) (kI 1048576)), Qm 2 5] [2] [])
  (.ret))
def laws_big.m : Fn := { np := 1, body := laws_big.b, res := [.tmp 2] }
def laws_big.k (M : Nat → Option Body) : Prop := M 36 = some (.code laws_big.m)
end Mx

namespace Mx
open Go
def spec_l01Once.b : C := .seq (.reg [Qb 4 false] [0,1] [0])
  (.seq (.reg [Qm 5 0, Qm 6 1, Q 7 (.call 125 [.t 5, .t 6] [0] []), Q 8 (.bin .eql (.t 7) (kI 0)), Qm 4 8] [4] [0])
  (.ret))
def spec_l01Once.m : Fn := { np := 2, body := spec_l01Once.b, res := [.tmp 4] }
def spec_l01Once.k (M : Nat → Option Body) : Prop := M 175 = some (.code spec_l01Once.m) ∧ spec_l01Below.k M
end Mx

namespace Mx
open Go
def spec_StoreNew.b : C := .seq (.reg [Q 2 (.alloc [.int .i64 0, .int .i64 0, .nils 7, .nils 1])] [0,2] [2])
  (.seq (.reg [Qm 3 0, Q 4 (.build [.int .i64 0, .int .i64 0, .nils 7, .nils 1] [(0, 1, .t 3)]), Qs 4 2 4] [2] [2])
  (.ret))
def spec_StoreNew.m : Fn := { np := 1, body := spec_StoreNew.b, res := [.cell 2 true 4] }
def spec_StoreNew.k (M : Nat → Option Body) : Prop := M 113 = some (.code spec_StoreNew.m)
def spec_l07Use.br : C := .seq (.reg [Qm 59 10, Q 60 (.bin .eql (.t 59) (kI 0)), Qm 61 60, Qg 62 (.mv (.t 13)) 61 false, Qg 63 (.bin .eql (.t 62) (kI 0)) 61 false, Q 64 (.pick (.t 61) (kB true) (.t 63)), Qm 58 64] [0,2,3,5,8,9,10,11,13,58] [0,5,8,15502,15503])
  (.cond (.t 58) (.shut [15502,15503] (.regd [QL 66 4 5, Qm 67 3, Qm 68 9, Q 69 (.bin .add (.t 67) (.t 68)), Qm 70 0,
    Q 71 (.bslf 1 3 [.str ⟨#[]⟩] [(0, .k (.str ⟨#[105,110,98,111,120]⟩)), (1, .k (.str ⟨#[119,111,114,107]⟩)), (2, .k (.str ⟨#[111,108,100]⟩))]),
    Q 72 (.call 185 [.t 70, .t 71] [0] []), Q 73 (.call 278 [.t 66, .t 69, .t 72] [] [(2, 15502), (3, 15503)]), Qm 65 73, Qx 74 0 65, Qx 75 1 65, Qs 4 5 74] [[], [], [], [1,2], [], [], [4,5], lr 7, lr 8, lr 9, lr 9, lr 10] [0,2,3,5,8,9] [0,5,8,15502,15503])) (.seq (.reg [Qm 77 13, Q 78 (.bin .lss (.t 77) (kI 6)), Qm 76 78] [0,2,3,5,8,9,10,11,13,76] [0,5,8,15502,15503])
  (.cond (.t 76) (.shut [15502,15503] (.regd [QL 80 4 5, Qm 81 10, Qm 82 3, Qm 83 9, Q 84 (.bin .add (.t 82) (.t 83)), Qm 85 0, Q 86 (.call 125 [.t 85, kI 8] [0] []), Qm 87 0, Q 88 (.call 174 [.t 87] [0] []),
    Q 89 (.call 279 [.t 80, .t 81, .t 84, .t 86, .t 88] [] [(2, 15502), (3, 15503)]), Qm 79 89, Qx 90 0 79, Qx 91 1 79, Qs 4 5 90] [[], [], [], [], [2,3], [], [5], [], [5,6,7], lr 9, lr 10, lr 11, lr 11, lr 12] [0,2,3,5,8,9] [0,5,8,15502,15503])) (.seq (.reg [Qm 93 13, Q 94 (.bin .lss (.t 93) (kI 9)), Qm 92 94] [0,2,3,5,8,9,10,11,13,92] [0,5,8,15502,15503])
  (.cond (.t 92) (.shut [15502,15503] (.regd [QL 96 4 5, Qm 97 10, Qm 98 11, Qm 99 0, Q 100 (.call 125 [.t 99, kI 8] [0] []), Q 101 (.call 280 [.t 96, .t 97, .t 98, .t 100] [] [(2, 15502), (3, 15503)]), Qm 95 101, Qx 102 0 95,
    Qx 103 1 95, Qs 4 5 102] [[], [], [], [], [3], lr 5, lr 6, lr 7, lr 7, lr 8] [0,2,3,5,8,9] [0,5,8,15502,15503])) (.seq (.reg [Qm 105 13, Q 106 (.bin .eql (.t 105) (kI 9)), Qm 104 106] [0,2,3,5,8,9,10,11,13,104] [0,5,8,15502,15503])
  (.cond (.t 104) (.shut [15502,15503] (.reg [QL 108 4 5, Qm 109 10, Qm 110 11, Q 111 (.call 281 [.t 108, .t 109, .t 110] [] [(2, 15502), (3, 15503)]), Qm 107 111, Qx 112 0 107, Qx 113 1 107, Qs 4 5 112] [0,2,3,5,8,9] [0,5,8,15502,15503])) (.seq (.reg [Qm 115 13, Q 116 (.bin .eql (.t 115) (kI 10)), Qm 114 116] [0,2,3,5,8,9,10,114] [0,5,8,15502,15503])
  (.cond (.t 114) (.shut [15502,15503] (.regd [QL 118 4 5, Qm 119 10, Qm 120 0,
    Q 121 (.bslf 1 4 [.str ⟨#[]⟩] [(0, .k (.str ⟨#[105,110,98,111,120]⟩)), (1, .k (.str ⟨#[119,111,114,107]⟩)), (2, .k (.str ⟨#[110,101,119]⟩)), (3, .k (.str ⟨#[111,116,104,101,114]⟩))]),
    Q 122 (.call 185 [.t 120, .t 121] [0] []), Q 123 (.call 282 [.t 118, .t 119, .t 122] [] [(2, 15502), (3, 15503)]), Qm 117 123, Qx 124 0 117, Qx 125 1 117, Qs 4 5 124] [[], [], [], [], [2,3], lr 5, lr 6, lr 7, lr 7, lr 8] [0,2,3,5,8,9] [0,5,8,15502,15503])) (.seq (.reg [Qm 50 0, Q 51 (.call 175 [.t 50, kI 3] [0] [])] [0,2,3,5,8,9,10,51] [0,5,8,15502,15503])
  (.cond (.t 51) (.shut [15502,15503] (.reg [QL 53 4 5, Qm 54 10, Q 55 (.call 283 [.t 53, .t 54] [] [(2, 15502), (3, 15503)]), Qm 52 55, Qx 56 0 52, Qx 57 1 52, Qs 4 5 56] [0,2,3,5,8,9] [0,5,8,15502,15503])) (.skip))))))))))))
def spec_l07Use.hd : C := .seq (.seq (.reg [Qf 19 2 5, Ql 20 19, Q 21 (.len (.t 20)), Q 22 (.bin .gtr (.t 21) (kI 0))] [0,2,3,5,8,9,10,11,22] [0,5,8,15502,15503])
  (.cond (.t 22) (.seq (.regd [Qf 23 2 5, Ql 24 23, Qm 25 0, Qf 26 2 5, Ql 27 26, Q 28 (.len (.t 27)), Q 29 (.call 125 [.t 25, .t 28] [0] []), Qa 30 7 24 29, QL 31 7 30,
    Q 12 (.alloc [.int .i64 0, .str ⟨#[]⟩, .int .i64 0, .int .i64 0, .int .i64 0, .nils 4, .nils 1]), Qs 7 12 31] [[], [0], [], [], [3], [3,4], [2,3,4,5], lr 7, lr 8, [], lr 10] [0,2,3,5,8,9,11,12] [0,5,8,12,15502,15503])
  (.seq (.reg [Qf 32 0 12, Ql 33 32, Qm 10 33] [0,2,3,5,8,9,10,11,12] [0,5,8,12,15502,15503])
  (.seq (.reg [Qf 34 5 12, Ql 35 34, Q 36 (.len (.t 35)), Q 37 (.bin .gtr (.t 36) (kI 0))] [0,2,3,5,8,9,10,11,12,37] [0,5,8,12,15502,15503])
  (.cond (.t 37) (.regd [Qf 38 5 12, Ql 39 38, Qm 40 0, Qf 41 5 12, Ql 42 41, Q 43 (.len (.t 42)), Q 44 (.call 125 [.t 40, .t 43] [0] []), Qa 45 4 39 44, Qf 46 0 45, Ql 47 46, Qm 11 47] [[], [0], [], [], [3], [3,4], [2,3,4,5], lr 7, lr 8, lr 9, lr 10] [0,2,3,5,8,9,10,11] [0,5,8,15502,15503]) (.skip))))) (.skip)))
  (.seq (.reg [Qm 48 0, Q 49 (.call 125 [.t 48, kI 12] [0] []), Qm 13 49] [0,2,3,5,8,9,10,11,13] [0,5,8,15502,15503])
  (.block 2 spec_l07Use.br))
def spec_l07Use.l0 : C := .seq (.seq (.reg [Qm 14 9, Qm 15 2, Q 16 (.bin .lss (.t 14) (.t 15))] [0,2,3,5,8,9,16] [0,5,8,15502,15503])
  (.cond (.t 16) (.skip) (.exit 0)))
  (.seq (.block 1 (.seq (.reg [Qi 10 0] [0,2,3,5,8,9,10] [0,5,8,15502,15503])
  (.seq (.reg [Qi 11 0] [0,2,3,5,8,9,10,11] [0,5,8,15502,15503])
  spec_l07Use.hd)))
  (.reg [Qm 17 9, Q 18 (.bin .add (.t 17) (kI 1)), Qm 9 18] [0,2,3,5,8,9] [0,5,8,15502,15503]))
def spec_l07Use.b : C := .seq (.reg [Qv 5 1, Q 8 (.alloc [.int .i64 0, .int .i64 0, .nils 7, .nils 1])] [0,2,3,5,8] [0,5,8,15502,15503])
  (.seq (.seq (.reg [Qi 9 0] [0,2,3,5,8,9] [0,5,8,15502,15503])
  (.block 0 (.loop spec_l07Use.l0)))
  (.seq (.reg [QL 126 4 5, Qs 4 8 126] [8] [0,8,15502,15503])
  (.ret)))
def spec_l07Use.m : Fn := { np := 4, body := spec_l07Use.b, res := [.cell 8 true 4] }
def spec_l07Use.k (M : Nat → Option Body) : Prop := M 244 = some (.code spec_l07Use.m) ∧ spec_l01Below.k M ∧ spec_l05Text.k M ∧ spec_l01Once.k M ∧ spec_l01Pick.k M ∧ spec_MakeBox.k M ∧ spec_PutMail.k M ∧ spec_MarkMail.k M ∧ spec_DropMail.k M ∧ spec_RenameBox.k M ∧ spec_DropBox.k M
end Mx

namespace Mx
open Go
def impl_JoinReg.b : C := .seq (.reg [Qv 2 0, Qv 3 1, Q 4 (.alloc [.int .i64 0, .int .i64 0, .int .i64 0])] [2,3,4] [2,3,4])
  (.seq (.seq (.reg [Qf 5 1 3, QL 6 2 5, Qf 7 1 2, QL 8 2 7, Q 9 (.call 275 [.t 6, .t 8] [] []), Qm 10 9, Qg 11 (.faddr 1 (.t 2)) 10 false, Qg 12 (.load true 2 (.t 11)) 10 false,
    Qg 13 (.faddr 1 (.t 3)) 10 false, Qg 14 (.load true 2 (.t 13)) 10 false, Qg 15 (.call 275 [.t 12, .t 14] [] []) 10 false, Qg 16 (.not (.t 15)) 10 false,
    Qg 17 (.mv (.t 16)) 10 false, Qg 18 (.faddr 0 (.t 3)) 17 true, Qg 19 (.load false 1 (.t 18)) 17 true, Qg 20 (.faddr 0 (.t 2)) 17 true, Qg 21 (.load false 1 (.t 20)) 17 true,
    Qg 22 (.bin .gtr (.t 19) (.t 21)) 17 true, Qg 23 (.pick (.t 17) (.t 22) (kB false)) 10 false, Q 24 (.pick (.t 10) (kB true) (.t 23))] [2,3,4,24] [2,3,4])
  (.cond (.t 24) (.seq (.reg [QL 25 3 3, Qs 3 4 25] [4] [4])
  (.ret)) (.skip)))
  (.seq (.reg [QL 26 3 2, Qs 3 4 26] [4] [4])
  (.ret)))
def impl_JoinReg.m : Fn := { np := 2, body := impl_JoinReg.b, res := [.cell 4 true 3] }
def impl_JoinReg.k (M : Nat → Option Body) : Prop := M 485 = some (.code impl_JoinReg.m) ∧ impl_Later.k M
def impl_JoinFlags.l0 : C := .seq (.seq (.reg [Qm 8 6, Qm 9 0, Q 10 (.len (.t 9)), Q 11 (.bin .lss (.t 8) (.t 10)), Qm 12 11, Qg 13 (.mv (.t 6)) 12 true, Qg 14 (.mv (.t 1)) 12 true, Qg 15 (.len (.t 14)) 12 true,
    Qg 16 (.bin .lss (.t 13) (.t 15)) 12 true, Q 17 (.pick (.t 12) (.t 16) (kB false))] [0,1,5,6,17] [7,31])
  (.cond (.t 17) (.skip) (.exit 0)))
  (.seq (.block 1 (.regd [Qm 20 5, Qm 21 0, Qm 22 6, Qa 23 3 21 22, QL 24 3 23, Qm 25 1, Qm 26 6, Qa 27 3 25 26, QL 28 3 27, Q 29 (.call 485 [.t 24, .t 28] [] []),
    Q 30 (.bslice 3 1 [.int .i64 0, .int .i64 0, .int .i64 0] [(0, .t 29)]), Q 31 (.app 3 24 (.t 20) (.t 30)), Qm 5 31] [[], [], [], [1,2], [1,2,3], [], [], [5,6], [5,6,7], [1,2,3,4,5,6,7,8], [1,2,3,4,5,6,7,8,9], lr 11, lr 12] [0,1,5,6] [7,31]))
  (.reg [Qm 18 6, Q 19 (.bin .add (.t 18) (kI 1)), Qm 6 19] [0,1,5,6] [7,31]))
def impl_JoinFlags.b : C := .seq (.reg [Q 4 (.nil 3)] [0,1] [])
  (.seq (.reg [Q 7 (.bslice 3 0 [.int .i64 0, .int .i64 0, .int .i64 0] []), Qm 5 7] [0,1,5] [7,31])
  (.seq (.seq (.reg [Qi 6 0] [0,1,5,6] [7,31])
  (.block 0 (.loop impl_JoinFlags.l0)))
  (.seq (.reg [Qm 32 5, Qm 4 32] [4] [4,7,31])
  (.ret))))
def impl_JoinFlags.m : Fn := { np := 2, body := impl_JoinFlags.b, res := [.tmp 4] }
def impl_JoinFlags.k (M : Nat → Option Body) : Prop := M 470 = some (.code impl_JoinFlags.m) ∧ impl_JoinReg.k M
def impl_JoinMail.b : C := .seq (.reg [Qv 2 0, Qv 3 1, Q 4 (.alloc [.int .i64 0, .int .i64 0, .nils 3, .str ⟨#[]⟩])] [2,3,4] [2,3,4,11102,12300])
  (.seq (.seq (.reg [Qf 5 0 2, Ql 6 5, Qf 7 0 3, Ql 8 7, Q 9 (.bin .neq (.t 6) (.t 8))] [2,3,4,9] [2,3,4,11102,12300])
  (.cond (.t 9) (.seq (.reg [QL 10 4 2, Q 11 (.call 233 [.t 10] [] [(2, 11102)]), Qs 4 4 11] [4] [4,11102,12300])
  (.ret)) (.skip)))
  (.seq (.regd [Qf 12 0 2, Ql 13 12, Qf 14 1 2, Ql 15 14, Qf 16 1 3, Ql 17 16, Q 18 (.max (.t 15) (.t 17)), Qf 19 2 2, Ql 20 19, Qf 21 2 3, Ql 22 21,
    Q 23 (.call 470 [.t 20, .t 22] [] [(0, 12300)]), Qf 24 3 2, Ql 25 24, Qf 26 3 3, Ql 27 26, Q 28 (.max (.t 25) (.t 27)),
    Q 29 (.build [.int .i64 0, .int .i64 0, .nils 3, .str ⟨#[]⟩] [(0, 1, .t 13), (1, 1, .t 18), (2, 1, .t 23), (3, 1, .t 28)]), Qs 4 4 29] [[], [0], [], [2], [], [4], [2,3,4,5], [], [7], [], [9], [7,8,9,10], [], [12], [], [14], [12,13,14,15], lr 17, lr 18] [4] [4,11102,12300])
  (.ret)))
def impl_JoinMail.m : Fn := { np := 2, body := impl_JoinMail.b, res := [.cell 4 true 4] }
def impl_JoinMail.k (M : Nat → Option Body) : Prop := M 452 = some (.code impl_JoinMail.m) ∧ impl_copyMail.k M ∧ impl_JoinFlags.k M
def spec_JoinReg.b : C := .seq (.reg [Qv 2 0, Qv 3 1, Q 4 (.alloc [.int .i64 0, .int .i64 0, .int .i64 0])] [2,3,4] [2,3,4])
  (.seq (.seq (.reg [Qf 5 1 2, QL 6 2 5, Qf 7 1 3, QL 8 2 7, Q 9 (.call 277 [.t 6, .t 8] [] []), Qm 10 9, Qg 11 (.faddr 1 (.t 2)) 10 false, Qg 12 (.load true 2 (.t 11)) 10 false,
    Qg 13 (.faddr 1 (.t 3)) 10 false, Qg 14 (.load true 2 (.t 13)) 10 false, Qg 15 (.eqs false [.int, .int] (.t 12) (.t 14)) 10 false, Qg 16 (.mv (.t 15)) 10 false,
    Qg 17 (.faddr 0 (.t 2)) 16 true, Qg 18 (.load false 1 (.t 17)) 16 true, Qg 19 (.faddr 0 (.t 3)) 16 true, Qg 20 (.load false 1 (.t 19)) 16 true,
    Qg 21 (.bin .geq (.t 18) (.t 20)) 16 true, Qg 22 (.pick (.t 16) (.t 21) (kB false)) 10 false, Q 23 (.pick (.t 10) (kB true) (.t 22))] [2,3,4,23] [2,3,4])
  (.cond (.t 23) (.seq (.reg [QL 24 3 2, Qs 3 4 24] [4] [4])
  (.ret)) (.skip)))
  (.seq (.reg [QL 25 3 3, Qs 3 4 25] [4] [4])
  (.ret)))
def spec_JoinReg.m : Fn := { np := 2, body := spec_JoinReg.b, res := [.cell 4 true 3] }
def spec_JoinReg.k (M : Nat → Option Body) : Prop := M 488 = some (.code spec_JoinReg.m) ∧ spec_Later.k M
def spec_JoinFlags.l0 : C := .seq (.seq (.reg [Qm 8 6, Qm 9 0, Q 10 (.len (.t 9)), Q 11 (.bin .lss (.t 8) (.t 10)), Qm 12 11, Qg 13 (.mv (.t 6)) 12 true, Qg 14 (.mv (.t 1)) 12 true, Qg 15 (.len (.t 14)) 12 true,
    Qg 16 (.bin .lss (.t 13) (.t 15)) 12 true, Q 17 (.pick (.t 12) (.t 16) (kB false))] [0,1,5,6,17] [7,31])
  (.cond (.t 17) (.skip) (.exit 0)))
  (.seq (.block 1 (.regd [Qm 20 5, Qm 21 0, Qm 22 6, Qa 23 3 21 22, QL 24 3 23, Qm 25 1, Qm 26 6, Qa 27 3 25 26, QL 28 3 27, Q 29 (.call 488 [.t 24, .t 28] [] []),
    Q 30 (.bslice 3 1 [.int .i64 0, .int .i64 0, .int .i64 0] [(0, .t 29)]), Q 31 (.app 3 24 (.t 20) (.t 30)), Qm 5 31] [[], [], [], [1,2], [1,2,3], [], [], [5,6], [5,6,7], [1,2,3,4,5,6,7,8], [1,2,3,4,5,6,7,8,9], lr 11, lr 12] [0,1,5,6] [7,31]))
  (.reg [Qm 18 6, Q 19 (.bin .add (.t 18) (kI 1)), Qm 6 19] [0,1,5,6] [7,31]))
def spec_JoinFlags.b : C := .seq (.reg [Q 4 (.nil 3)] [0,1] [])
  (.seq (.reg [Q 7 (.bslice 3 0 [.int .i64 0, .int .i64 0, .int .i64 0] []), Qm 5 7] [0,1,5] [7,31])
  (.seq (.seq (.reg [Qi 6 0] [0,1,5,6] [7,31])
  (.block 0 (.loop spec_JoinFlags.l0)))
  (.seq (.reg [Qm 32 5, Qm 4 32] [4] [4,7,31])
  (.ret))))
def spec_JoinFlags.m : Fn := { np := 2, body := spec_JoinFlags.b, res := [.tmp 4] }
def spec_JoinFlags.k (M : Nat → Option Body) : Prop := M 472 = some (.code spec_JoinFlags.m) ∧ spec_JoinReg.k M
def spec_JoinMail.b : C := .seq (.reg [Qv 2 0, Qv 3 1, Q 4 (.alloc [.int .i64 0, .int .i64 0, .nils 3, .str ⟨#[]⟩])] [2,3,4] [2,3,4,10702,11800])
  (.seq (.reg [QL 6 4 2, Q 7 (.call 238 [.t 6] [] [(2, 10702)]), Q 5 (.alloc [.int .i64 0, .int .i64 0, .nils 3, .str ⟨#[]⟩]), Qs 4 5 7] [2,3,4,5] [2,3,4,5,10702,11800])
  (.seq (.seq (.reg [Qf 8 0 2, Ql 9 8, Qf 10 0 3, Ql 11 10, Q 12 (.bin .neq (.t 9) (.t 11))] [2,3,4,5,12] [2,3,4,5,10702,11800])
  (.cond (.t 12) (.seq (.reg [QL 13 4 5, Qs 4 4 13] [4] [4,10702,11800])
  (.ret)) (.skip)))
  (.seq (.reg [Qf 14 2 2, Ql 15 14, Qf 16 2 3, Ql 17 16, Q 18 (.call 472 [.t 15, .t 17] [] [(0, 11800)]), Qf 19 2 5, Qs 1 19 18] [2,3,4,5] [2,3,4,5,10702,11800])
  (.seq (.seq (.reg [Qf 20 1 3, Ql 21 20, Qf 22 1 2, Ql 23 22, Q 24 (.bin .gtr (.t 21) (.t 23))] [2,3,4,5,24] [2,3,4,5,10702,11800])
  (.cond (.t 24) (.reg [Qf 25 1 3, Ql 26 25, Qf 27 1 5, Qs 1 27 26] [2,3,4,5] [2,3,4,5,10702,11800]) (.skip)))
  (.seq (.seq (.reg [Qf 28 3 3, Ql 29 28, Qf 30 3 2, Ql 31 30, Q 32 (.bin .gtr (.t 29) (.t 31))] [3,4,5,32] [3,4,5,10702,11800])
  (.cond (.t 32) (.reg [Qf 33 3 3, Ql 34 33, Qf 35 3 5, Qs 1 35 34] [4,5] [4,5,10702,11800]) (.skip)))
  (.seq (.reg [QL 36 4 5, Qs 4 4 36] [4] [4,10702,11800])
  (.ret)))))))
def spec_JoinMail.m : Fn := { np := 2, body := spec_JoinMail.b, res := [.cell 4 true 4] }
def spec_JoinMail.k (M : Nat → Option Body) : Prop := M 461 = some (.code spec_JoinMail.m) ∧ spec_l05Copy.k M ∧ spec_JoinFlags.k M
end Mx

namespace Mx
open Go
def slices_DeleteFunc_impl_Mail_impl_Mail.l0 : C := .seq (.seq (.reg [Qm 16 6, Qm 17 0, Q 18 (.len (.t 17)), Q 19 (.bin .lss (.t 16) (.t 18))] [0,1,5,6,19] [0])
  (.cond (.t 19) (.skip) (.exit 0)))
  (.seq (.block 1 (.seq (.reg [Qm 22 0, Qm 23 6, Qa 24 4 22 23, QL 25 4 24, Q 7 (.alloc [.int .i64 0, .int .i64 0, .nils 3, .str ⟨#[]⟩]), Qs 4 7 25] [0,1,5,6,7] [0,7])
  (.seq (.reg [Qm 26 1, QL 27 4 7, Q 28 (.callv (.t 26) [.t 27]), Q 29 (.not (.t 28))] [0,1,5,6,7,29] [0,7])
  (.cond (.t 29) (.seq (.reg [Qm 30 0, Qm 31 5, QL 32 4 7, Qa 33 4 30 31, Qs 4 33 32] [0,1,5,6] [0])
  (.reg [Qm 34 5, Q 35 (.bin .add (.t 34) (kI 1)), Qm 5 35] [0,1,5,6] [0])) (.skip)))))
  (.reg [Qm 20 6, Q 21 (.bin .add (.t 20) (kI 1)), Qm 6 21] [0,1,5,6] [0]))
def slices_DeleteFunc_impl_Mail_impl_Mail.b : C := .seq (.reg [Q 4 (.nil 4)] [0,1] [0])
  (.seq (.reg [Qm 8 0, Qm 9 1, Q 10 (.call 161 [.t 8, .t 9] [] []), Qm 5 10] [0,1,5] [0])
  (.seq (.seq (.reg [Qm 11 5, Q 12 (.bin .eql (.t 11) (kI (-1)))] [0,1,5,12] [0])
  (.cond (.t 12) (.seq (.reg [Qm 13 0, Qm 4 13] [4] [0,4])
  (.ret)) (.skip)))
  (.seq (.seq (.reg [Qm 14 5, Q 15 (.bin .add (.t 14) (kI 1)), Qm 6 15] [0,1,5,6] [0])
  (.block 0 (.loop slices_DeleteFunc_impl_Mail_impl_Mail.l0)))
  (.seq (.reg [Qm 36 0, Qm 37 5, Q 38 (.slc 4 (.t 36) (some (.t 37)) none none), Qn (.clr [.int .i64 0, .int .i64 0, .nils 3, .str ⟨#[]⟩] (.t 38))] [0,5] [0])
  (.seq (.reg [Qm 39 0, Qm 40 5, Q 41 (.slc 4 (.t 39) none (some (.t 40)) none), Qm 4 41] [4] [0,4])
  (.ret))))))
def slices_DeleteFunc_impl_Mail_impl_Mail.m : Fn := { np := 2, body := slices_DeleteFunc_impl_Mail_impl_Mail.b, res := [.tmp 4] }
def slices_DeleteFunc_impl_Mail_impl_Mail.k (M : Nat → Option Body) : Prop := M 453 = some (.code slices_DeleteFunc_impl_Mail_impl_Mail.m) ∧ slices_IndexFunc_impl_Mail_impl_Mail.k M
def impl_joined_1.b : C := .seq (.reg [Qv 2 0, Qb 3 false] [1,2] [2])
  (.seq (.reg [Ql 4 1, Qf 5 0 2, Ql 6 5, Q 7 (.call 156 [.t 4, .t 6] [] []), Qm 3 7] [3] [])
  (.ret))
def impl_joined_1.m : Fn := { np := 2, body := impl_joined_1.b, res := [.tmp 3] }
def impl_joined_1.k (M : Nat → Option Body) : Prop := M 454 = some (.code impl_joined_1.m) ∧ slices_Contains_int_int.k M
def slices_insertionSortCmpFunc_impl_Mail.l1 : C := .seq (.seq (.regd [Qm 18 9, Qm 19 1, Q 20 (.bin .gtr (.t 18) (.t 19)), Qm 21 20, Qg 22 (.mv (.t 3)) 21 true, Qg 23 (.mv (.t 0)) 21 true, Qg 24 (.mv (.t 9)) 21 true,
    Qg 25 (.iaddr 4 (.t 23) (.t 24)) 21 true, Qg 26 (.load true 4 (.t 25)) 21 true, Qg 27 (.mv (.t 0)) 21 true, Qg 28 (.mv (.t 9)) 21 true, Qg 29 (.bin .sub (.t 28) (kI 1)) 21 true,
    Qg 30 (.iaddr 4 (.t 27) (.t 29)) 21 true, Qg 31 (.load true 4 (.t 30)) 21 true, Qg 32 (.callv (.t 22) [.t 26, .t 31]) 21 true, Qg 33 (.bin .lss (.t 32) (kI 0)) 21 true,
    Q 34 (.pick (.t 21) (.t 33) (kB false))] [[], [], [0,1], [0,1,2], lr 4, lr 4, lr 4, lr 4 ++ [5,6], lr 4 ++ [5,6,7], lr 4, lr 4, lr 4 ++ [10], lr 4 ++ [9,10,11], lr 4 ++ [9,10,11,12], lr 14, lr 15, lr 16] [0,1,2,3,8,9,34] [0])
  (.cond (.t 34) (.skip) (.exit 2)))
  (.seq (.block 3 (.regd [Qm 37 0, Qm 38 9, Qm 39 0, Qm 40 9, Q 41 (.bin .sub (.t 40) (kI 1)), Qm 42 0, Qm 43 9, Q 44 (.bin .sub (.t 43) (kI 1)), Qa 45 4 42 44, QL 46 4 45, Qm 47 0, Qm 48 9, Qa 49 4 47 48,
    QL 50 4 49, Qa 51 4 37 38, Qs 4 51 46, Qa 52 4 39 41, Qs 4 52 50] [[], [], [], [], [3], [], [], [6], [5,6,7], [5,6,7,8], [], [], [10,11], [10,11,12], [0,1,5,6,7,8,9,10,11,12,13], [0,1,5,6,7,8,9,10,11,12,13,14], lr 16, lr 17] [0,1,2,3,8,9] [0]))
  (.reg [Qm 35 9, Q 36 (.bin .sub (.t 35) (kI 1)), Qm 9 36] [0,1,2,3,8,9] [0]))
def slices_insertionSortCmpFunc_impl_Mail.l0 : C := .seq (.seq (.reg [Qm 12 8, Qm 13 2, Q 14 (.bin .lss (.t 12) (.t 13))] [0,1,2,3,8,14] [0])
  (.cond (.t 14) (.skip) (.exit 0)))
  (.seq (.block 1 (.seq (.reg [Qm 17 8, Qm 9 17] [0,1,2,3,8,9] [0])
  (.block 2 (.loop slices_insertionSortCmpFunc_impl_Mail.l1))))
  (.reg [Qm 15 8, Q 16 (.bin .add (.t 15) (kI 1)), Qm 8 16] [0,1,2,3,8] [0]))
def slices_insertionSortCmpFunc_impl_Mail.b : C := .seq (.reg [Qm 10 1, Q 11 (.bin .add (.t 10) (kI 1)), Qm 8 11] [0,1,2,3,8] [0])
  (.block 0 (.loop slices_insertionSortCmpFunc_impl_Mail.l0))
def slices_insertionSortCmpFunc_impl_Mail.m : Fn := { np := 4, body := slices_insertionSortCmpFunc_impl_Mail.b, res := [] }
def slices_insertionSortCmpFunc_impl_Mail.k (M : Nat → Option Body) : Prop := M 486 = some (.code slices_insertionSortCmpFunc_impl_Mail.m)
def slices_stableCmpFunc_impl_Mail.l0 : C := .seq (.seq (.reg [Qm 11 8, Qm 12 1, Q 13 (.bin .leq (.t 11) (.t 12))] [0,1,2,6,7,8,13] [0])
  (.cond (.t 13) (.skip) (.exit 0)))
  (.block 1 (.seq (.reg [Qm 14 0, Qm 15 7, Qm 16 8, Qm 17 2, Q 18 (.call 486 [.t 14, .t 15, .t 16, .t 17] [0] [])] [0,1,2,6,8] [0])
  (.seq (.reg [Qm 19 8, Qm 7 19] [0,1,2,6,7,8] [0])
  (.reg [Qm 20 8, Qm 21 6, Q 22 (.bin .add (.t 20) (.t 21)), Qm 8 22] [0,1,2,6,7,8] [0]))))
def slices_stableCmpFunc_impl_Mail.l2 : C := .seq (.seq (.reg [Qm 33 8, Qm 34 1, Q 35 (.bin .leq (.t 33) (.t 34))] [0,1,2,6,7,8,35] [0])
  (.cond (.t 35) (.skip) (.exit 4)))
  (.block 5 (.seq (.reg [Qm 36 0, Qm 37 7, Qm 38 7, Qm 39 6, Q 40 (.bin .add (.t 38) (.t 39)), Qm 41 8, Qm 42 2, Q 43 (.call 487 [.t 36, .t 37, .t 40, .t 41, .t 42] [0] [])] [0,1,2,6,8] [0])
  (.seq (.reg [Qm 44 8, Qm 7 44] [0,1,2,6,7,8] [0])
  (.reg [Qm 45 8, Qm 46 6, Q 47 (.bin .mul (kI 2) (.t 46)), Q 48 (.bin .add (.t 45) (.t 47)), Qm 8 48] [0,1,2,6,7,8] [0]))))
def slices_stableCmpFunc_impl_Mail.l1 : C := .seq (.seq (.reg [Qm 28 6, Qm 29 1, Q 30 (.bin .lss (.t 28) (.t 29))] [0,1,2,6,30] [0])
  (.cond (.t 30) (.skip) (.exit 2)))
  (.block 3 (.seq (.reg [Qm 31 6, Q 32 (.bin .mul (kI 2) (.t 31)), Qi 7 0, Qm 8 32] [0,1,2,6,7,8] [0])
  (.seq (.block 4 (.loop slices_stableCmpFunc_impl_Mail.l2))
  (.seq (.seq (.reg [Qm 49 7, Qm 50 6, Q 51 (.bin .add (.t 49) (.t 50)), Qm 9 51] [0,1,2,6,7,9] [0])
  (.seq (.reg [Qm 52 9, Qm 53 1, Q 54 (.bin .lss (.t 52) (.t 53))] [0,1,2,6,7,9,54] [0])
  (.cond (.t 54) (.reg [Qm 55 0, Qm 56 7, Qm 57 9, Qm 58 1, Qm 59 2, Q 60 (.call 487 [.t 55, .t 56, .t 57, .t 58, .t 59] [0] [])] [0,1,2,6] [0]) (.skip))))
  (.reg [Qm 61 6, Q 62 (.bin .mul (.t 61) (kI 2)), Qm 6 62] [0,1,2,6] [0])))))
def slices_stableCmpFunc_impl_Mail.b : C := .seq (.reg [Qi 6 20] [0,1,2,6] [0])
  (.seq (.reg [Qm 10 6, Qi 7 0, Qm 8 10] [0,1,2,6,7,8] [0])
  (.seq (.block 0 (.loop slices_stableCmpFunc_impl_Mail.l0))
  (.seq (.reg [Qm 23 0, Qm 24 7, Qm 25 1, Qm 26 2, Q 27 (.call 486 [.t 23, .t 24, .t 25, .t 26] [0] [])] [0,1,2,6] [0])
  (.block 2 (.loop slices_stableCmpFunc_impl_Mail.l1)))))
def slices_stableCmpFunc_impl_Mail.m : Fn := { np := 3, body := slices_stableCmpFunc_impl_Mail.b, res := [] }
def slices_stableCmpFunc_impl_Mail.k (M : Nat → Option Body) : Prop := M 471 = some (.code slices_stableCmpFunc_impl_Mail.m) ∧ slices_insertionSortCmpFunc_impl_Mail.k M
def slices_SortStableFunc_impl_Mail_impl_Mail.b : C := .reg [Qm 4 0, Qm 5 0, Q 6 (.len (.t 5)), Qm 7 1, Q 8 (.call 471 [.t 4, .t 6, .t 7] [0] [])] [] [0]
def slices_SortStableFunc_impl_Mail_impl_Mail.m : Fn := { np := 2, body := slices_SortStableFunc_impl_Mail_impl_Mail.b, res := [] }
def slices_SortStableFunc_impl_Mail_impl_Mail.k (M : Nat → Option Body) : Prop := M 455 = some (.code slices_SortStableFunc_impl_Mail_impl_Mail.m) ∧ slices_stableCmpFunc_impl_Mail.k M
def impl_compare.b : C := .seq (.reg [Qi 4 0] [0,1] [])
  (.seq (.block 0 (.seq (.reg [Qm 6 0, Qm 7 1, Q 8 (.bin .lss (.t 6) (.t 7)), Qm 5 8] [0,1,5] [])
  (.cond (.t 5) (.seq (.reg [Qi 4 (-1)] [4] [])
  (.ret)) (.seq (.reg [Qm 10 0, Qm 11 1, Q 12 (.bin .gtr (.t 10) (.t 11)), Qm 9 12] [9] [])
  (.cond (.t 9) (.seq (.reg [Qi 4 1] [4] [])
  (.ret)) (.skip))))))
  (.seq (.reg [Qi 4 0] [4] [])
  (.ret)))
def impl_compare.m : Fn := { np := 2, body := impl_compare.b, res := [.tmp 4] }
def impl_compare.k (M : Nat → Option Body) : Prop := M 457 = some (.code impl_compare.m)
def impl_joined_2.b : C := .seq (.reg [Qv 2 0, Qv 3 1, Qi 4 0] [2,3] [2,3])
  (.seq (.reg [Qf 5 0 2, Ql 6 5, Qf 7 0 3, Ql 8 7, Q 9 (.call 457 [.t 6, .t 8] [] []), Qm 4 9] [4] [])
  (.ret))
def impl_joined_2.m : Fn := { np := 2, body := impl_joined_2.b, res := [.tmp 4] }
def impl_joined_2.k (M : Nat → Option Body) : Prop := M 456 = some (.code impl_joined_2.m) ∧ impl_compare.k M
def impl_joined_3.b : C := .seq (.reg [Qv 2 0, Qv 3 1, Qi 4 0] [2,3] [2,3])
  (.seq (.reg [Qf 5 1 2, Ql 6 5, Qf 7 1 3, Ql 8 7, Q 9 (.call 457 [.t 6, .t 8] [] []), Qm 4 9] [4] [])
  (.ret))
def impl_joined_3.m : Fn := { np := 2, body := impl_joined_3.b, res := [.tmp 4] }
def impl_joined_3.k (M : Nat → Option Body) : Prop := M 458 = some (.code impl_joined_3.m) ∧ impl_compare.k M
def impl_joined.l0 : C := .seq (.reg [Q 21 (.bin .lss (.t 20) (.t 19))] [2,3,6,18,19,20,21] [2,3,16,41,59,16800])
  (.seq (.cond (.t 21) (.skip) (.exit 0))
  (.seq (.block 1 (.seq (.reg [Qa 22 4 18 20, QL 23 4 22, Q 8 (.alloc [.int .i64 0, .int .i64 0, .nils 3, .str ⟨#[]⟩]), Qs 4 8 23] [2,3,6,8,18,19,20] [2,3,8,16,41,59,16800])
  (.seq (.seq (.reg [QL 24 7 3, Qf 25 0 8, Ql 26 25, Q 27 (.call 72 [.t 24, .t 26] [] []), Qm 9 27] [2,3,6,8,9,18,19,20] [2,3,8,16,41,59,16800])
  (.seq (.reg [Qm 28 9, Q 29 (.bin .geq (.t 28) (kI 0))] [2,3,6,8,9,18,19,20,29] [2,3,8,16,41,59,16800])
  (.cond (.t 29) (.regd [QL 30 4 8, Qf 31 5 3, Ql 32 31, Qm 33 9, Qa 34 4 32 33, QL 35 4 34, Q 36 (.call 452 [.t 30, .t 35] [] []), Qs 4 8 36] [[], [], [1], [], [1,2,3], [1,2,3,4], lr 6, lr 7] [2,3,6,8,18,19,20] [2,3,8,16,41,59,16800]) (.skip))))
  (.reg [Qm 37 6, QL 38 4 8, Q 39 (.call 233 [.t 38] [] []), Q 40 (.bslice 4 1 [.int .i64 0, .int .i64 0, .nils 3, .str ⟨#[]⟩] [(0, .t 39)]), Q 41 (.app 4 56 (.t 37) (.t 40)), Qm 6 41] [2,3,6,18,19,20] [2,3,16,41,59,16800]))))
  (.reg [Q 42 (.bin .add (.t 20) (kI 1)), Qm 20 42] [2,3,6,18,19,20] [2,3,16,41,59,16800])))
def impl_joined.l1 : C := .seq (.reg [Q 47 (.bin .lss (.t 46) (.t 45))] [2,3,6,44,45,46,47] [2,3,16,41,59,16800])
  (.seq (.cond (.t 47) (.skip) (.exit 2))
  (.seq (.block 3 (.seq (.reg [Qa 48 4 44 46, QL 49 4 48, Q 11 (.alloc [.int .i64 0, .int .i64 0, .nils 3, .str ⟨#[]⟩]), Qs 4 11 49] [2,3,6,11,44,45,46] [2,3,11,16,41,59,16800])
  (.seq (.reg [QL 50 7 2, Qf 51 0 11, Ql 52 51, Q 53 (.call 20 [.t 50, .t 52] [] []), Q 54 (.not (.t 53))] [2,3,6,11,44,45,46,54] [2,3,11,16,41,59,16800])
  (.cond (.t 54) (.reg [Qm 55 6, QL 56 4 11, Q 57 (.call 233 [.t 56] [] []), Q 58 (.bslice 4 1 [.int .i64 0, .int .i64 0, .nils 3, .str ⟨#[]⟩] [(0, .t 57)]), Q 59 (.app 4 56 (.t 55) (.t 58)), Qm 6 59] [2,3,6,44,45,46] [2,3,16,41,59,16800]) (.skip)))))
  (.reg [Q 60 (.bin .add (.t 46) (kI 1)), Qm 46 60] [2,3,6,44,45,46] [2,3,16,41,59,16800])))
def impl_joined.l2 : C := .seq (.reg [Q 79 (.bin .lss (.t 78) (.t 77))] [2,3,6,13,76,77,78,79] [2,3,16,41,59,16800])
  (.seq (.cond (.t 79) (.skip) (.exit 4))
  (.seq (.block 5 (.seq (.reg [Qm 80 78, Qa 81 4 76 78, QL 82 4 81, Q 15 (.alloc [.int .i64 0, .int .i64 0, .nils 3, .str ⟨#[]⟩]), Qm 14 80, Qs 4 15 82] [2,3,6,13,14,15,76,77,78] [2,3,15,16,41,59,16800])
  (.seq (.reg [QL 83 7 2, Qf 84 0 15, Ql 85 84, Q 86 (.call 20 [.t 83, .t 85] [] []), Qm 87 86, Qg 88 (.load true 7 (.t 2)) 87 true, Qg 89 (.load true 7 (.t 3)) 87 true,
    Qg 90 (.faddr 0 (.t 15)) 87 true, Qg 91 (.load false 1 (.t 90)) 87 true, Qg 92 (.call 23 [.t 88, .t 89, .t 91] [] []) 87 true, Qg 93 (.not (.t 92)) 87 true,
    Q 94 (.pick (.t 87) (.t 93) (kB false)), Qm 95 94, Qg 96 (.load true 7 (.t 3)) 95 false, Qg 97 (.faddr 0 (.t 15)) 95 false, Qg 98 (.load false 1 (.t 97)) 95 false,
    Qg 99 (.call 20 [.t 96, .t 98] [] []) 95 false, Qg 100 (.mv (.t 99)) 95 false, Qg 101 (.load true 7 (.t 3)) 100 true, Qg 102 (.load true 7 (.t 2)) 100 true,
    Qg 103 (.faddr 0 (.t 15)) 100 true, Qg 104 (.load false 1 (.t 103)) 100 true, Qg 105 (.call 23 [.t 101, .t 102, .t 104] [] []) 100 true, Qg 106 (.not (.t 105)) 100 true,
    Qg 107 (.pick (.t 100) (.t 106) (kB false)) 95 false, Q 108 (.pick (.t 95) (kB true) (.t 107))] [2,3,6,13,14,76,77,78,108] [2,3,16,41,59,16800])
  (.cond (.t 108) (.seq (.reg [Qm 109 6, Qm 110 14, Qm 111 13, Qa 112 4 109 110, Qf 113 1 112, Qs 1 113 111] [2,3,6,13,76,77,78] [2,3,16,41,59,16800])
  (.reg [Qm 114 13, Q 115 (.bin .add (.t 114) (kI 1)), Qm 13 115] [2,3,6,13,76,77,78] [2,3,16,41,59,16800])) (.skip)))))
  (.reg [Q 116 (.bin .add (.t 78) (kI 1)), Qm 78 116] [2,3,6,13,76,77,78] [2,3,16,41,59,16800])))
def impl_joined.b : C := .seq (.reg [Qv 2 0, Qv 3 1, Q 4 (.nil 4), Qi 5 0] [2,3] [2,3])
  (.seq (.reg [Q 16 (.bslice 4 0 [.int .i64 0, .int .i64 0, .nils 3, .str ⟨#[]⟩] []), Qm 6 16] [2,3,6] [2,3,16,41,59,16800])
  (.seq (.seq (.reg [Qf 17 5 2, Ql 18 17, Q 19 (.len (.t 18)), Qi 20 0] [2,3,6,18,19,20] [2,3,16,41,59,16800])
  (.block 0 (.loop impl_joined.l0)))
  (.seq (.seq (.reg [Qf 43 5 3, Ql 44 43, Q 45 (.len (.t 44)), Qi 46 0] [2,3,6,44,45,46] [2,3,16,41,59,16800])
  (.block 2 (.loop impl_joined.l1)))
  (.seq (.reg [Qf 61 6 2, Ql 62 61, Qf 63 6 3, Ql 64 63, Q 65 (.call 44 [.t 62, .t 64] [] []), Q 12 (.alloc [.nils 1]), Qs 1 12 65] [2,3,6,12] [2,3,12,16,41,59,16800])
  (.seq (.shut [12] (.reg [Qm 66 6, Q 67 (.mkfn 454 [.t 12]), Q 68 (.call 453 [.t 66, .t 67] [0] [(0, 16800)]), Qm 6 68] [2,3,6] [2,3,16,41,59,16800]))
  (.seq (.reg [Qm 69 6, Q 70 (.call 455 [.t 69, .fn 456] [0] [])] [2,3,6] [2,3,16,41,59,16800])
  (.seq (.reg [Qf 71 4 2, Ql 72 71, Qf 73 4 3, Ql 74 73, Q 75 (.max (.t 72) (.t 74)), Qm 13 75] [2,3,6,13] [2,3,16,41,59,16800])
  (.seq (.seq (.reg [Qm 76 6, Q 77 (.len (.t 76)), Qi 78 0] [2,3,6,13,76,77,78] [2,3,16,41,59,16800])
  (.block 4 (.loop impl_joined.l2)))
  (.seq (.reg [Qm 117 6, Q 118 (.call 455 [.t 117, .fn 458] [0] [])] [6,13] [16,41,59,16800])
  (.seq (.reg [Qm 119 6, Qm 120 13, Qm 4 119, Qm 5 120] [4,5] [4,16,41,59,16800])
  (.ret)))))))))))
def impl_joined.m : Fn := { np := 2, body := impl_joined.b, res := [.tmp 4, .tmp 5] }
def impl_joined.k (M : Nat → Option Body) : Prop := M 437 = some (.code impl_joined.m) ∧ impl_Holds.k M ∧ impl_KeepsUid.k M ∧ impl_JoinGone.k M ∧ impl_MailAt.k M ∧ impl_copyMail.k M ∧ impl_JoinMail.k M ∧ slices_DeleteFunc_impl_Mail_impl_Mail.k M ∧ impl_joined_1.k M ∧ slices_SortStableFunc_impl_Mail_impl_Mail.k M ∧ impl_joined_2.k M ∧ impl_joined_3.k M
def impl_JoinBox.b : C := .seq (.reg [Qv 2 0, Qv 3 1, Q 4 (.alloc [.int .i64 0, .str ⟨#[]⟩, .int .i64 0, .int .i64 0, .int .i64 0, .nils 4, .nils 1])] [2,3,4] [2,3,4,11205,11206,12300,15400])
  (.seq (.seq (.reg [Qf 6 0 2, Ql 7 6, Qf 8 0 3, Ql 9 8, Q 10 (.bin .neq (.t 7) (.t 9))] [2,3,4,10] [2,3,4,11205,11206,12300,15400])
  (.cond (.t 10) (.seq (.reg [QL 11 7 2, Q 12 (.call 155 [.t 11] [] [(5, 11205), (6, 11206)]), Qs 7 4 12] [4] [4,11205,11206,12300,15400])
  (.ret)) (.skip)))
  (.seq (.regd [Qf 13 0 2, Ql 14 13, Qf 15 1 2, Ql 16 15, Qf 17 2 2, QL 18 2 17, Qf 19 6 2, Ql 20 19, Qf 21 6 3, Ql 22 21, Q 23 (.call 44 [.t 20, .t 22] [] [(0, 12300)]),
    Q 24 (.build [.int .i64 0, .str ⟨#[]⟩, .int .i64 0, .int .i64 0, .int .i64 0, .nils 4, .nils 1] [(0, 1, .t 14), (1, 1, .t 16), (2, 2, .t 18), (6, 1, .t 23)]),
    Q 5 (.alloc [.int .i64 0, .str ⟨#[]⟩, .int .i64 0, .int .i64 0, .int .i64 0, .nils 4, .nils 1]), Qs 7 5 24] [[], [0], [], [2], [], [4], [], [6], [], [8], [6,7,8,9], lr 11, [], lr 13] [2,3,4,5] [2,3,4,5,11205,11206,12300,15400])
  (.seq (.seq (.reg [Qf 25 2 3, QL 26 2 25, Qf 27 2 2, QL 28 2 27, Q 29 (.call 275 [.t 26, .t 28] [] []), Qm 30 29, Qg 31 (.faddr 2 (.t 2)) 30 false, Qg 32 (.load true 2 (.t 31)) 30 false,
    Qg 33 (.faddr 2 (.t 3)) 30 false, Qg 34 (.load true 2 (.t 33)) 30 false, Qg 35 (.call 275 [.t 32, .t 34] [] []) 30 false, Qg 36 (.not (.t 35)) 30 false,
    Qg 37 (.mv (.t 36)) 30 false, Qg 38 (.faddr 1 (.t 3)) 37 true, Qg 39 (.load false 1 (.t 38)) 37 true, Qg 40 (.faddr 1 (.t 2)) 37 true, Qg 41 (.load false 1 (.t 40)) 37 true,
    Qg 42 (.bin .gtr (.t 39) (.t 41)) 37 true, Qg 43 (.pick (.t 37) (.t 42) (kB false)) 30 false, Q 44 (.pick (.t 30) (kB true) (.t 43))] [2,3,4,5,44] [2,3,4,5,11205,11206,12300,15400])
  (.cond (.t 44) (.seq (.reg [Qf 45 1 3, Ql 46 45, Qf 47 1 5, Qs 1 47 46] [2,3,4,5] [2,3,4,5,11205,11206,12300,15400])
  (.reg [Qf 48 2 3, QL 49 2 48, Qf 50 2 5, Qs 2 50 49] [2,3,4,5] [2,3,4,5,11205,11206,12300,15400])) (.skip)))
  (.seq (.reg [QL 52 7 2, QL 53 7 3, Q 54 (.call 437 [.t 52, .t 53] [] [(0, 15400)]), Qm 51 54, Qx 55 0 51, Qx 56 1 51, Qf 57 5 5, Qs 1 57 55, Qf 58 4 5, Qs 1 58 56] [4,5] [4,5,11205,11206,12300,15400])
  (.seq (.reg [QL 59 7 5, Qs 7 4 59] [4] [4,11205,11206,12300,15400])
  (.ret))))))
def impl_JoinBox.m : Fn := { np := 2, body := impl_JoinBox.b, res := [.cell 4 true 7] }
def impl_JoinBox.k (M : Nat → Option Body) : Prop := M 401 = some (.code impl_JoinBox.m) ∧ impl_JoinGone.k M ∧ impl_copyBox.k M ∧ impl_Later.k M ∧ impl_joined.k M
end Mx

namespace Mx
open Go
def spec_l08Next.b : C := .seq (.reg [Qv 2 0, Qv 3 1, Qi 4 0] [2,3] [2,3])
  (.seq (.seq (.reg [Qf 5 4 2, Ql 6 5, Qf 7 4 3, Ql 8 7, Q 9 (.bin .gtr (.t 6) (.t 8))] [2,3,9] [2,3])
  (.cond (.t 9) (.seq (.reg [Qf 10 4 2, Ql 11 10, Qm 4 11] [4] [])
  (.ret)) (.skip)))
  (.seq (.reg [Qf 12 4 3, Ql 13 12, Qm 4 13] [4] [])
  (.ret)))
def spec_l08Next.m : Fn := { np := 2, body := spec_l08Next.b, res := [.tmp 4] }
def spec_l08Next.k (M : Nat → Option Body) : Prop := M 459 = some (.code spec_l08Next.m)
def spec_l08Gids.l0 : C := .seq (.seq (.reg [Qm 9 6, Qf 10 5 2, Ql 11 10, Q 12 (.len (.t 11)), Q 13 (.bin .lss (.t 9) (.t 12))] [2,3,5,6,13] [2,3,8])
  (.cond (.t 13) (.skip) (.exit 0)))
  (.seq (.block 1 (.seq (.reg [Qm 16 5, Qf 17 5 2, Ql 18 17, Qm 19 6, Qa 20 4 18 19, Qf 21 0 20, Ql 22 21, Q 23 (.call 132 [.t 16, .t 22] [] []), Q 24 (.not (.t 23))] [2,3,5,6,24] [2,3,8])
  (.cond (.t 24) (.reg [Qm 25 5, Qf 26 5 2, Ql 27 26, Qm 28 6, Qa 29 4 27 28, Qf 30 0 29, Ql 31 30, Q 32 (.call 133 [.t 25, .t 31] [] [(0, 8)]), Qm 5 32] [2,3,5,6] [2,3,8]) (.skip))))
  (.reg [Qm 14 6, Q 15 (.bin .add (.t 14) (kI 1)), Qm 6 15] [2,3,5,6] [2,3,8]))
def spec_l08Gids.l1 : C := .seq (.seq (.reg [Qm 33 7, Qf 34 5 3, Ql 35 34, Q 36 (.len (.t 35)), Q 37 (.bin .lss (.t 33) (.t 36))] [3,5,7,37] [3,8])
  (.cond (.t 37) (.skip) (.exit 2)))
  (.seq (.block 3 (.seq (.reg [Qm 40 5, Qf 41 5 3, Ql 42 41, Qm 43 7, Qa 44 4 42 43, Qf 45 0 44, Ql 46 45, Q 47 (.call 132 [.t 40, .t 46] [] []), Q 48 (.not (.t 47))] [3,5,7,48] [3,8])
  (.cond (.t 48) (.reg [Qm 49 5, Qf 50 5 3, Ql 51 50, Qm 52 7, Qa 53 4 51 52, Qf 54 0 53, Ql 55 54, Q 56 (.call 133 [.t 49, .t 55] [] [(0, 8)]), Qm 5 56] [3,5,7] [3,8]) (.skip))))
  (.reg [Qm 38 7, Q 39 (.bin .add (.t 38) (kI 1)), Qm 7 39] [3,5,7] [3,8]))
def spec_l08Gids.b : C := .seq (.reg [Qv 2 0, Qv 3 1, Q 4 (.nil 1)] [2,3] [2,3])
  (.seq (.reg [Q 8 (.bslice 1 0 [.int .i64 0] []), Qm 5 8] [2,3,5] [2,3,8])
  (.seq (.seq (.reg [Qi 6 0] [2,3,5,6] [2,3,8])
  (.block 0 (.loop spec_l08Gids.l0)))
  (.seq (.seq (.reg [Qi 7 0] [3,5,7] [3,8])
  (.block 2 (.loop spec_l08Gids.l1)))
  (.seq (.reg [Qm 57 5, Qm 4 57] [4] [4,8])
  (.ret)))))
def spec_l08Gids.m : Fn := { np := 2, body := spec_l08Gids.b, res := [.tmp 4] }
def spec_l08Gids.k (M : Nat → Option Body) : Prop := M 460 = some (.code spec_l08Gids.m) ∧ spec_l06In.k M ∧ spec_l06Put.k M
def spec_l08Put.l0 : C := .seq (.seq (.reg [Qm 9 6, Qm 10 0, Q 11 (.len (.t 10)), Q 12 (.bin .lss (.t 9) (.t 11))] [0,3,5,6,12] [3,8,29,33,54])
  (.cond (.t 12) (.skip) (.exit 0)))
  (.seq (.block 1 (.seq (.regd [Qm 15 0, Qm 16 6, Qa 17 4 15 16, Qf 18 1 17, Ql 19 18, Qf 20 1 3, Ql 21 20, Q 22 (.bin .leq (.t 19) (.t 21))] [[], [], [0,1], [0,1,2], lr 4, [], [5], lr 7] [0,3,5,6,22] [3,8,29,33,54])
  (.cond (.t 22) (.reg [Qm 23 5, Qm 24 0, Qm 25 6, Qa 26 4 24 25, QL 27 4 26, Q 28 (.bslice 4 1 [.int .i64 0, .int .i64 0, .nils 3, .str ⟨#[]⟩] [(0, .t 27)]), Q 29 (.app 4 56 (.t 23) (.t 28)), Qm 5 29] [0,3,5,6] [3,8,29,33,54]) (.skip))))
  (.reg [Qm 13 6, Q 14 (.bin .add (.t 13) (kI 1)), Qm 6 14] [0,3,5,6] [3,8,29,33,54]))
def spec_l08Put.l1 : C := .seq (.seq (.reg [Qm 34 7, Qm 35 0, Q 36 (.len (.t 35)), Q 37 (.bin .lss (.t 34) (.t 36))] [0,3,5,7,37] [3,8,29,33,54])
  (.cond (.t 37) (.skip) (.exit 2)))
  (.seq (.block 3 (.seq (.regd [Qm 40 0, Qm 41 7, Qa 42 4 40 41, Qf 43 1 42, Ql 44 43, Qf 45 1 3, Ql 46 45, Q 47 (.bin .gtr (.t 44) (.t 46))] [[], [], [0,1], [0,1,2], lr 4, [], [5], lr 7] [0,3,5,7,47] [3,8,29,33,54])
  (.cond (.t 47) (.reg [Qm 48 5, Qm 49 0, Qm 50 7, Qa 51 4 49 50, QL 52 4 51, Q 53 (.bslice 4 1 [.int .i64 0, .int .i64 0, .nils 3, .str ⟨#[]⟩] [(0, .t 52)]), Q 54 (.app 4 56 (.t 48) (.t 53)), Qm 5 54] [0,3,5,7] [3,8,29,33,54]) (.skip))))
  (.reg [Qm 38 7, Q 39 (.bin .add (.t 38) (kI 1)), Qm 7 39] [0,3,5,7] [3,8,29,33,54]))
def spec_l08Put.b : C := .seq (.reg [Qv 3 1, Q 4 (.nil 4)] [0,3] [3])
  (.seq (.reg [Q 8 (.bslice 4 0 [.int .i64 0, .int .i64 0, .nils 3, .str ⟨#[]⟩] []), Qm 5 8] [0,3,5] [3,8,29,33,54])
  (.seq (.seq (.reg [Qi 6 0] [0,3,5,6] [3,8,29,33,54])
  (.block 0 (.loop spec_l08Put.l0)))
  (.seq (.reg [Qm 30 5, QL 31 4 3, Q 32 (.bslice 4 1 [.int .i64 0, .int .i64 0, .nils 3, .str ⟨#[]⟩] [(0, .t 31)]), Q 33 (.app 4 56 (.t 30) (.t 32)), Qm 5 33] [0,3,5] [3,8,29,33,54])
  (.seq (.seq (.reg [Qi 7 0] [0,3,5,7] [3,8,29,33,54])
  (.block 2 (.loop spec_l08Put.l1)))
  (.seq (.reg [Qm 55 5, Qm 4 55] [4] [4,8,29,33,54])
  (.ret))))))
def spec_l08Put.m : Fn := { np := 2, body := spec_l08Put.b, res := [.tmp 4] }
def spec_l08Put.k (M : Nat → Option Body) : Prop := M 462 = some (.code spec_l08Put.m)
def spec_l08Join.l0 : C := .seq (.seq (.reg [Qm 21 9, Qm 22 8, Q 23 (.len (.t 22)), Q 24 (.bin .lss (.t 21) (.t 23))] [2,3,6,7,8,9,24] [2,3,17])
  (.cond (.t 24) (.skip) (.exit 0)))
  (.seq (.block 1 (.seq (.reg [Qm 27 8, Qm 28 9, Qa 29 1 27 28, Ql 30 29, Qm 10 30] [2,3,6,7,8,9,10] [2,3,17])
  (.seq (.seq (.reg [Qf 31 6 2, Ql 32 31, Qm 33 10, Q 34 (.call 132 [.t 32, .t 33] [] []), Qm 35 34, Qg 36 (.faddr 6 (.t 3)) 35 false, Qg 37 (.load false 1 (.t 36)) 35 false,
    Qg 38 (.mv (.t 10)) 35 false, Qg 39 (.call 132 [.t 37, .t 38] [] []) 35 false, Q 40 (.pick (.t 35) (kB true) (.t 39))] [2,3,6,7,8,9,10,40] [2,3,17])
  (.cond (.t 40) (.exit 1) (.skip)))
  (.seq (.reg [QL 41 7 2, Qm 42 10, Q 43 (.call 91 [.t 41, .t 42] [] []), Qm 11 43] [2,3,6,7,8,9,10,11] [2,3,17])
  (.seq (.reg [QL 44 7 3, Qm 45 10, Q 46 (.call 91 [.t 44, .t 45] [] []), Qm 12 46] [2,3,6,7,8,9,10,11,12] [2,3,17])
  (.seq (.reg [Q 47 (.build [.int .i64 0, .int .i64 0, .nils 3, .str ⟨#[]⟩] []), Q 13 (.alloc [.int .i64 0, .int .i64 0, .nils 3, .str ⟨#[]⟩]), Qs 4 13 47] [2,3,6,7,8,9,10,11,12,13] [2,3,13,17])
  (.seq (.block 2 (.seq (.reg [Qm 55 11, Q 56 (.bin .geq (.t 55) (kI 0)), Qm 57 56, Qg 58 (.mv (.t 12)) 57 true, Qg 59 (.bin .geq (.t 58) (kI 0)) 57 true, Q 60 (.pick (.t 57) (.t 59) (kB false)), Qm 54 60] [2,3,6,7,8,9,10,11,12,13,54] [2,3,13,17])
  (.cond (.t 54) (.regd [Qf 61 5 2, Ql 62 61, Qm 63 11, Qa 64 4 62 63, QL 65 4 64, Qf 66 5 3, Ql 67 66, Qm 68 12, Qa 69 4 67 68, QL 70 4 69, Q 71 (.call 461 [.t 65, .t 70] [] []), Qs 4 13 71] [[], [0], [], [0,1,2], lr 4, [], [5], [], [5,6,7], [5,6,7,8], lr 10, lr 11] [2,3,6,7,8,9,10,11,12,13] [2,3,13,17]) (.seq (.reg [Qm 73 11, Q 74 (.bin .geq (.t 73) (kI 0)), Qm 72 74] [2,3,6,7,8,9,10,11,12,13,72] [2,3,13,17])
  (.cond (.t 72) (.reg [Qf 75 5 2, Ql 76 75, Qm 77 11, Qa 78 4 76 77, QL 79 4 78, Q 80 (.call 238 [.t 79] [] []), Qs 4 13 80] [2,3,6,7,8,9,10,11,12,13] [2,3,13,17]) (.reg [Qf 48 5 3, Ql 49 48, Qm 50 12, Qa 51 4 49 50, QL 52 4 51, Q 53 (.call 238 [.t 52] [] []), Qs 4 13 53] [2,3,6,7,8,9,10,11,12,13] [2,3,13,17]))))))
  (.seq (.seq (.reg [Qm 81 11, Q 82 (.bin .geq (.t 81) (kI 0)), Qm 83 82, Qg 84 (.load true 7 (.t 2)) 83 true, Qg 85 (.load true 7 (.t 3)) 83 true, Qg 86 (.mv (.t 10)) 83 true,
    Qg 87 (.call 22 [.t 84, .t 85, .t 86] [] []) 83 true, Qg 88 (.not (.t 87)) 83 true, Q 89 (.pick (.t 83) (.t 88) (kB false)), Qm 90 89, Qg 91 (.mv (.t 12)) 90 false,
    Qg 92 (.bin .geq (.t 91) (kI 0)) 90 false, Qg 93 (.mv (.t 92)) 90 false, Qg 94 (.load true 7 (.t 3)) 93 true, Qg 95 (.load true 7 (.t 2)) 93 true, Qg 96 (.mv (.t 10)) 93 true,
    Qg 97 (.call 22 [.t 94, .t 95, .t 96] [] []) 93 true, Qg 98 (.not (.t 97)) 93 true, Qg 99 (.pick (.t 93) (.t 98) (kB false)) 90 false, Q 100 (.pick (.t 90) (kB true) (.t 99))] [2,3,6,7,8,9,13,100] [2,3,13,17])
  (.cond (.t 100) (.seq (.reg [Qm 101 6, Qf 102 1 13, Qs 1 102 101] [2,3,6,7,8,9,13] [2,3,13,17])
  (.reg [Qm 103 6, Q 104 (.bin .add (.t 103) (kI 1)), Qm 6 104] [2,3,6,7,8,9,13] [2,3,13,17])) (.skip)))
  (.shut [17] (.reg [Qm 105 7, QL 106 4 13, Q 107 (.call 462 [.t 105, .t 106] [] [(0, 17)]), Qm 7 107] [2,3,6,7,8,9] [2,3,17]))))))))))
  (.reg [Qm 25 9, Q 26 (.bin .add (.t 25) (kI 1)), Qm 9 26] [2,3,6,7,8,9] [2,3,17]))
def spec_l08Join.b : C := .seq (.reg [Qv 2 0, Qv 3 1, Q 4 (.nil 4), Qi 5 0] [2,3] [2,3])
  (.seq (.reg [QL 14 7 2, QL 15 7 3, Q 16 (.call 459 [.t 14, .t 15] [] []), Qm 6 16] [2,3,6] [2,3])
  (.seq (.reg [Q 17 (.bslice 4 0 [.int .i64 0, .int .i64 0, .nils 3, .str ⟨#[]⟩] []), Qm 7 17] [2,3,6,7] [2,3,17])
  (.seq (.reg [QL 18 7 2, QL 19 7 3, Q 20 (.call 460 [.t 18, .t 19] [] []), Qm 8 20] [2,3,6,7,8] [2,3,17])
  (.seq (.seq (.reg [Qi 9 0] [2,3,6,7,8,9] [2,3,17])
  (.block 0 (.loop spec_l08Join.l0)))
  (.seq (.reg [Qm 108 7, Qm 109 6, Qm 4 108, Qm 5 109] [4,5] [4,17])
  (.ret))))))
def spec_l08Join.m : Fn := { np := 2, body := spec_l08Join.b, res := [.tmp 4, .tmp 5] }
def spec_l08Join.k (M : Nat → Option Body) : Prop := M 439 = some (.code spec_l08Join.m) ∧ spec_KeepsUid.k M ∧ spec_MailAt.k M ∧ spec_l06In.k M ∧ spec_l05Copy.k M ∧ spec_l08Next.k M ∧ spec_l08Gids.k M ∧ spec_JoinMail.k M ∧ spec_l08Put.k M
def spec_JoinBox.b : C := .seq (.reg [Qv 2 0, Qv 3 1, Q 4 (.alloc [.int .i64 0, .str ⟨#[]⟩, .int .i64 0, .int .i64 0, .int .i64 0, .nils 4, .nils 1])] [2,3,4] [2,3,4,11205,11206,12300,15300])
  (.seq (.seq (.reg [Qf 6 0 2, Ql 7 6, Qf 8 0 3, Ql 9 8, Q 10 (.bin .neq (.t 7) (.t 9))] [2,3,4,10] [2,3,4,11205,11206,12300,15300])
  (.cond (.t 10) (.seq (.reg [QL 11 7 2, Q 12 (.call 180 [.t 11] [] [(5, 11205), (6, 11206)]), Qs 7 4 12] [4] [4,11205,11206,12300,15300])
  (.ret)) (.skip)))
  (.seq (.regd [Qf 13 0 2, Ql 14 13, Qf 15 1 2, Ql 16 15, Qf 17 2 2, QL 18 2 17, Qf 19 6 2, Ql 20 19, Qf 21 6 3, Ql 22 21, Q 23 (.call 43 [.t 20, .t 22] [] [(0, 12300)]),
    Q 24 (.build [.int .i64 0, .str ⟨#[]⟩, .int .i64 0, .int .i64 0, .int .i64 0, .nils 4, .nils 1] [(0, 1, .t 14), (1, 1, .t 16), (2, 2, .t 18), (6, 1, .t 23)]),
    Q 5 (.alloc [.int .i64 0, .str ⟨#[]⟩, .int .i64 0, .int .i64 0, .int .i64 0, .nils 4, .nils 1]), Qs 7 5 24] [[], [0], [], [2], [], [4], [], [6], [], [8], [6,7,8,9], lr 11, [], lr 13] [2,3,4,5] [2,3,4,5,11205,11206,12300,15300])
  (.seq (.seq (.reg [Qf 25 2 3, QL 26 2 25, Qf 27 2 2, QL 28 2 27, Q 29 (.call 277 [.t 26, .t 28] [] []), Qm 30 29, Qg 31 (.faddr 2 (.t 2)) 30 false, Qg 32 (.load true 2 (.t 31)) 30 false,
    Qg 33 (.faddr 2 (.t 3)) 30 false, Qg 34 (.load true 2 (.t 33)) 30 false, Qg 35 (.eqs false [.int, .int] (.t 32) (.t 34)) 30 false, Qg 36 (.mv (.t 35)) 30 false,
    Qg 37 (.faddr 1 (.t 3)) 36 true, Qg 38 (.load false 1 (.t 37)) 36 true, Qg 39 (.faddr 1 (.t 2)) 36 true, Qg 40 (.load false 1 (.t 39)) 36 true,
    Qg 41 (.bin .gtr (.t 38) (.t 40)) 36 true, Qg 42 (.pick (.t 36) (.t 41) (kB false)) 30 false, Q 43 (.pick (.t 30) (kB true) (.t 42))] [2,3,4,5,43] [2,3,4,5,11205,11206,12300,15300])
  (.cond (.t 43) (.seq (.reg [Qf 44 1 3, Ql 45 44, Qf 46 1 5, Qs 1 46 45] [2,3,4,5] [2,3,4,5,11205,11206,12300,15300])
  (.reg [Qf 47 2 3, QL 48 2 47, Qf 49 2 5, Qs 2 49 48] [2,3,4,5] [2,3,4,5,11205,11206,12300,15300])) (.skip)))
  (.seq (.reg [QL 51 7 2, QL 52 7 3, Q 53 (.call 439 [.t 51, .t 52] [] [(0, 15300)]), Qm 50 53, Qx 54 0 50, Qx 55 1 50, Qf 56 5 5, Qs 1 56 54, Qf 57 4 5, Qs 1 57 55] [4,5] [4,5,11205,11206,12300,15300])
  (.seq (.reg [QL 58 7 5, Qs 7 4 58] [4] [4,11205,11206,12300,15300])
  (.ret))))))
def spec_JoinBox.m : Fn := { np := 2, body := spec_JoinBox.b, res := [.cell 4 true 7] }
def spec_JoinBox.k (M : Nat → Option Body) : Prop := M 405 = some (.code spec_JoinBox.m) ∧ spec_JoinGone.k M ∧ spec_l06Copy.k M ∧ spec_Later.k M ∧ spec_l08Join.k M
end Mx

namespace Mx
open Go
def spec_l01Figure.b : C := .seq (.reg [Q 2 (.mv (.k (.int .u8 0)))] [0] [])
  (.seq (.seq (.reg [Qm 3 0, Q 4 (.bin .lss (.t 3) (kI 10))] [0,4] [])
  (.cond (.t 4) (.seq (.reg [Qm 5 0, Q 6 (.bin .add (kI 48) (.t 5)), Q 7 (.i2i .u8 (.t 6)), Qm 2 7] [2] [])
  (.ret)) (.skip)))
  (.seq (.reg [Qm 8 0, Q 9 (.bin .add (kI 97) (.t 8)), Q 10 (.bin .sub (.t 9) (kI 10)), Q 11 (.i2i .u8 (.t 10)), Qm 2 11] [2] [])
  (.ret)))
def spec_l01Figure.m : Fn := { np := 1, body := spec_l01Figure.b, res := [.tmp 2] }
def spec_l01Figure.k (M : Nat → Option Body) : Prop := M 247 = some (.code spec_l01Figure.m)
def spec_Decimal.l0 : C := .seq (.seq (.reg [Qm 10 0, Q 11 (.bin .neq (.t 10) (kI 0))] [0,3,4,11] [])
  (.cond (.t 11) (.skip) (.exit 0)))
  (.block 1 (.seq (.reg [Qm 12 0, Q 13 (.bin .rem (.t 12) (kI 10)), Qm 5 13] [0,3,4,5] [])
  (.seq (.seq (.reg [Qm 14 5, Q 15 (.bin .lss (.t 14) (kI 0))] [0,3,4,5,15] [])
  (.cond (.t 15) (.reg [Qm 16 5, Q 17 (.neg (.t 16)), Qm 5 17] [0,3,4,5] []) (.skip)))
  (.seq (.reg [Qm 18 5, Q 19 (.call 247 [.t 18] [] []), Q 20 (.bslice 1 1 [.int .u8 0] [(0, .t 19)]), Q 21 (.b2s (.t 20)), Qm 22 4, Q 23 (.bin .add (.t 21) (.t 22)), Qm 4 23] [0,3,4] [])
  (.reg [Qm 24 0, Q 25 (.bin .quo (.t 24) (kI 10)), Qm 0 25] [0,3,4] [])))))
def spec_Decimal.b : C := .seq (.reg [Q 2 (.mv (.k (.str ⟨#[]⟩)))] [0] [])
  (.seq (.seq (.reg [Qm 6 0, Q 7 (.bin .eql (.t 6) (kI 0))] [0,7] [])
  (.cond (.t 7) (.seq (.reg [Q 2 (.mv (.k (.str ⟨#[48]⟩)))] [2] [])
  (.ret)) (.skip)))
  (.seq (.reg [Qm 8 0, Q 9 (.bin .lss (.t 8) (kI 0)), Qm 3 9] [0,3] [])
  (.seq (.reg [Q 4 (.mv (.k (.str ⟨#[]⟩)))] [0,3,4] [])
  (.seq (.block 0 (.loop spec_Decimal.l0))
  (.seq (.seq (.reg [Qm 26 3] [4,26] [])
  (.cond (.t 26) (.seq (.reg [Qm 27 4, Q 28 (.bin .add (.k (.str ⟨#[45]⟩)) (.t 27)), Qm 2 28] [2] [])
  (.ret)) (.skip)))
  (.seq (.reg [Qm 29 4, Qm 2 29] [2] [])
  (.ret)))))))
def spec_Decimal.m : Fn := { np := 1, body := spec_Decimal.b, res := [.tmp 2] }
def spec_Decimal.k (M : Nat → Option Body) : Prop := M 197 = some (.code spec_Decimal.m) ∧ spec_l01Figure.k M
def impl_Decimal.l0 : C := .seq (.seq (.reg [Qm 9 4, Q 10 (.bin .neq (.t 9) (kI 0))] [0,3,4,10] [])
  (.cond (.t 10) (.skip) (.exit 0)))
  (.seq (.block 1 (.seq (.reg [Qm 13 4, Q 14 (.bin .rem (.t 13) (kI 10)), Qm 5 14] [0,3,4,5] [])
  (.seq (.reg [Qm 15 5, Qm 16 5, Q 17 (.neg (.t 16)), Q 18 (.max (.t 15) (.t 17)), Qm 5 18] [0,3,4,5] [])
  (.reg [Qm 19 5, Qm 20 5, Q 21 (.bin .add (.t 20) (kI 1)), Q 22 (.sstr (.k (.str ⟨#[48,49,50,51,52,53,54,55,56,57,97,98,99,100,101,102]⟩)) (some (.t 19)) (some (.t 21))),
    Qm 23 3, Q 24 (.bin .add (.t 22) (.t 23)), Qm 3 24] [0,3,4] []))))
  (.reg [Qm 11 4, Q 12 (.bin .quo (.t 11) (kI 10)), Qm 4 12] [0,3,4] []))
def impl_Decimal.b : C := .seq (.reg [Q 2 (.mv (.k (.str ⟨#[]⟩)))] [0] [])
  (.seq (.seq (.reg [Qm 6 0, Q 7 (.bin .eql (.t 6) (kI 0))] [0,7] [])
  (.cond (.t 7) (.seq (.reg [Q 2 (.mv (.k (.str ⟨#[48]⟩)))] [2] [])
  (.ret)) (.skip)))
  (.seq (.reg [Q 3 (.mv (.k (.str ⟨#[]⟩)))] [0,3] [])
  (.seq (.seq (.reg [Qm 8 0, Qm 4 8] [0,3,4] [])
  (.block 0 (.loop impl_Decimal.l0)))
  (.seq (.seq (.reg [Qm 25 0, Q 26 (.bin .lss (.t 25) (kI 0))] [3,26] [])
  (.cond (.t 26) (.reg [Qm 27 3, Q 28 (.bin .add (.k (.str ⟨#[45]⟩)) (.t 27)), Qm 3 28] [3] []) (.skip)))
  (.seq (.reg [Qm 29 3, Qm 2 29] [2] [])
  (.ret))))))
def impl_Decimal.m : Fn := { np := 1, body := impl_Decimal.b, res := [.tmp 2] }
def impl_Decimal.k (M : Nat → Option Body) : Prop := M 128 = some (.code impl_Decimal.m)
end Mx

namespace Mx
open Go
def impl_JoinBoxes_1_1.b : C := .seq (.reg [Qv 2 0, Qb 3 false] [1,2] [2])
  (.seq (.reg [Qf 4 0 2, Ql 5 4, Ql 6 1, Q 7 (.bin .eql (.t 5) (.t 6)), Qm 3 7] [3] [])
  (.ret))
def impl_JoinBoxes_1_1.m : Fn := { np := 2, body := impl_JoinBoxes_1_1.b, res := [.tmp 3] }
def impl_JoinBoxes_1_1.k (M : Nat → Option Body) : Prop := M 477 = some (.code impl_JoinBoxes_1_1.m)
def impl_JoinBoxes_1.b : C := .seq (.reg [Qv 3 1, Qi 4 0] [0,3] [3])
  (.seq (.reg [Qm 5 0, Q 6 (.mkfn 477 [.t 3]), Q 7 (.call 200 [.t 5, .t 6] [] []), Qm 4 7] [4] [])
  (.ret))
def impl_JoinBoxes_1.m : Fn := { np := 2, body := impl_JoinBoxes_1.b, res := [.tmp 4] }
def impl_JoinBoxes_1.k (M : Nat → Option Body) : Prop := M 476 = some (.code impl_JoinBoxes_1.m) ∧ slices_IndexFunc_impl_Box_impl_Box.k M ∧ impl_JoinBoxes_1_1.k M
def slices_DeleteFunc_impl_Box_impl_Box.l0 : C := .seq (.seq (.reg [Qm 16 6, Qm 17 0, Q 18 (.len (.t 17)), Q 19 (.bin .lss (.t 16) (.t 18))] [0,1,5,6,19] [0])
  (.cond (.t 19) (.skip) (.exit 0)))
  (.seq (.block 1 (.seq (.reg [Qm 22 0, Qm 23 6, Qa 24 7 22 23, QL 25 7 24, Q 7 (.alloc [.int .i64 0, .str ⟨#[]⟩, .int .i64 0, .int .i64 0, .int .i64 0, .nils 4, .nils 1]), Qs 7 7 25] [0,1,5,6,7] [0,7])
  (.seq (.reg [Qm 26 1, QL 27 7 7, Q 28 (.callv (.t 26) [.t 27]), Q 29 (.not (.t 28))] [0,1,5,6,7,29] [0,7])
  (.cond (.t 29) (.seq (.reg [Qm 30 0, Qm 31 5, QL 32 7 7, Qa 33 7 30 31, Qs 7 33 32] [0,1,5,6] [0])
  (.reg [Qm 34 5, Q 35 (.bin .add (.t 34) (kI 1)), Qm 5 35] [0,1,5,6] [0])) (.skip)))))
  (.reg [Qm 20 6, Q 21 (.bin .add (.t 20) (kI 1)), Qm 6 21] [0,1,5,6] [0]))
def slices_DeleteFunc_impl_Box_impl_Box.b : C := .seq (.reg [Q 4 (.nil 7)] [0,1] [0])
  (.seq (.reg [Qm 8 0, Qm 9 1, Q 10 (.call 200 [.t 8, .t 9] [] []), Qm 5 10] [0,1,5] [0])
  (.seq (.seq (.reg [Qm 11 5, Q 12 (.bin .eql (.t 11) (kI (-1)))] [0,1,5,12] [0])
  (.cond (.t 12) (.seq (.reg [Qm 13 0, Qm 4 13] [4] [0,4])
  (.ret)) (.skip)))
  (.seq (.seq (.reg [Qm 14 5, Q 15 (.bin .add (.t 14) (kI 1)), Qm 6 15] [0,1,5,6] [0])
  (.block 0 (.loop slices_DeleteFunc_impl_Box_impl_Box.l0)))
  (.seq (.reg [Qm 36 0, Qm 37 5, Q 38 (.slc 7 (.t 36) (some (.t 37)) none none), Qn (.clr [.int .i64 0, .str ⟨#[]⟩, .int .i64 0, .int .i64 0, .int .i64 0, .nils 4, .nils 1] (.t 38))] [0,5] [0])
  (.seq (.reg [Qm 39 0, Qm 40 5, Q 41 (.slc 7 (.t 39) none (some (.t 40)) none), Qm 4 41] [4] [0,4])
  (.ret))))))
def slices_DeleteFunc_impl_Box_impl_Box.m : Fn := { np := 2, body := slices_DeleteFunc_impl_Box_impl_Box.b, res := [.tmp 4] }
def slices_DeleteFunc_impl_Box_impl_Box.k (M : Nat → Option Body) : Prop := M 478 = some (.code slices_DeleteFunc_impl_Box_impl_Box.m) ∧ slices_IndexFunc_impl_Box_impl_Box.k M
def impl_JoinBoxes_2.b : C := .seq (.reg [Qv 2 0, Qb 3 false] [1,2] [2])
  (.seq (.reg [Ql 4 1, Qf 5 0 2, Ql 6 5, Q 7 (.call 156 [.t 4, .t 6] [] []), Qm 3 7] [3] [])
  (.ret))
def impl_JoinBoxes_2.m : Fn := { np := 2, body := impl_JoinBoxes_2.b, res := [.tmp 3] }
def impl_JoinBoxes_2.k (M : Nat → Option Body) : Prop := M 479 = some (.code impl_JoinBoxes_2.m) ∧ slices_Contains_int_int.k M
def slices_insertionSortCmpFunc_impl_Box.l1 : C := .seq (.seq (.regd [Qm 18 9, Qm 19 1, Q 20 (.bin .gtr (.t 18) (.t 19)), Qm 21 20, Qg 22 (.mv (.t 3)) 21 true, Qg 23 (.mv (.t 0)) 21 true, Qg 24 (.mv (.t 9)) 21 true,
    Qg 25 (.iaddr 7 (.t 23) (.t 24)) 21 true, Qg 26 (.load true 7 (.t 25)) 21 true, Qg 27 (.mv (.t 0)) 21 true, Qg 28 (.mv (.t 9)) 21 true, Qg 29 (.bin .sub (.t 28) (kI 1)) 21 true,
    Qg 30 (.iaddr 7 (.t 27) (.t 29)) 21 true, Qg 31 (.load true 7 (.t 30)) 21 true, Qg 32 (.callv (.t 22) [.t 26, .t 31]) 21 true, Qg 33 (.bin .lss (.t 32) (kI 0)) 21 true,
    Q 34 (.pick (.t 21) (.t 33) (kB false))] [[], [], [0,1], [0,1,2], lr 4, lr 4, lr 4, lr 4 ++ [5,6], lr 4 ++ [5,6,7], lr 4, lr 4, lr 4 ++ [10], lr 4 ++ [9,10,11], lr 4 ++ [9,10,11,12], lr 14, lr 15, lr 16] [0,1,2,3,8,9,34] [0])
  (.cond (.t 34) (.skip) (.exit 2)))
  (.seq (.block 3 (.regd [Qm 37 0, Qm 38 9, Qm 39 0, Qm 40 9, Q 41 (.bin .sub (.t 40) (kI 1)), Qm 42 0, Qm 43 9, Q 44 (.bin .sub (.t 43) (kI 1)), Qa 45 7 42 44, QL 46 7 45, Qm 47 0, Qm 48 9, Qa 49 7 47 48,
    QL 50 7 49, Qa 51 7 37 38, Qs 7 51 46, Qa 52 7 39 41, Qs 7 52 50] [[], [], [], [], [3], [], [], [6], [5,6,7], [5,6,7,8], [], [], [10,11], [10,11,12], [0,1,5,6,7,8,9,10,11,12,13], [0,1,5,6,7,8,9,10,11,12,13,14], lr 16, lr 17] [0,1,2,3,8,9] [0]))
  (.reg [Qm 35 9, Q 36 (.bin .sub (.t 35) (kI 1)), Qm 9 36] [0,1,2,3,8,9] [0]))
def slices_insertionSortCmpFunc_impl_Box.l0 : C := .seq (.seq (.reg [Qm 12 8, Qm 13 2, Q 14 (.bin .lss (.t 12) (.t 13))] [0,1,2,3,8,14] [0])
  (.cond (.t 14) (.skip) (.exit 0)))
  (.seq (.block 1 (.seq (.reg [Qm 17 8, Qm 9 17] [0,1,2,3,8,9] [0])
  (.block 2 (.loop slices_insertionSortCmpFunc_impl_Box.l1))))
  (.reg [Qm 15 8, Q 16 (.bin .add (.t 15) (kI 1)), Qm 8 16] [0,1,2,3,8] [0]))
def slices_insertionSortCmpFunc_impl_Box.b : C := .seq (.reg [Qm 10 1, Q 11 (.bin .add (.t 10) (kI 1)), Qm 8 11] [0,1,2,3,8] [0])
  (.block 0 (.loop slices_insertionSortCmpFunc_impl_Box.l0))
def slices_insertionSortCmpFunc_impl_Box.m : Fn := { np := 4, body := slices_insertionSortCmpFunc_impl_Box.b, res := [] }
def slices_insertionSortCmpFunc_impl_Box.k (M : Nat → Option Body) : Prop := M 492 = some (.code slices_insertionSortCmpFunc_impl_Box.m)
def slices_stableCmpFunc_impl_Box.l0 : C := .seq (.seq (.reg [Qm 11 8, Qm 12 1, Q 13 (.bin .leq (.t 11) (.t 12))] [0,1,2,6,7,8,13] [0])
  (.cond (.t 13) (.skip) (.exit 0)))
  (.block 1 (.seq (.reg [Qm 14 0, Qm 15 7, Qm 16 8, Qm 17 2, Q 18 (.call 492 [.t 14, .t 15, .t 16, .t 17] [0] [])] [0,1,2,6,8] [0])
  (.seq (.reg [Qm 19 8, Qm 7 19] [0,1,2,6,7,8] [0])
  (.reg [Qm 20 8, Qm 21 6, Q 22 (.bin .add (.t 20) (.t 21)), Qm 8 22] [0,1,2,6,7,8] [0]))))
def slices_stableCmpFunc_impl_Box.l2 : C := .seq (.seq (.reg [Qm 33 8, Qm 34 1, Q 35 (.bin .leq (.t 33) (.t 34))] [0,1,2,6,7,8,35] [0])
  (.cond (.t 35) (.skip) (.exit 4)))
  (.block 5 (.seq (.reg [Qm 36 0, Qm 37 7, Qm 38 7, Qm 39 6, Q 40 (.bin .add (.t 38) (.t 39)), Qm 41 8, Qm 42 2, Q 43 (.call 493 [.t 36, .t 37, .t 40, .t 41, .t 42] [0] [])] [0,1,2,6,8] [0])
  (.seq (.reg [Qm 44 8, Qm 7 44] [0,1,2,6,7,8] [0])
  (.reg [Qm 45 8, Qm 46 6, Q 47 (.bin .mul (kI 2) (.t 46)), Q 48 (.bin .add (.t 45) (.t 47)), Qm 8 48] [0,1,2,6,7,8] [0]))))
def slices_stableCmpFunc_impl_Box.l1 : C := .seq (.seq (.reg [Qm 28 6, Qm 29 1, Q 30 (.bin .lss (.t 28) (.t 29))] [0,1,2,6,30] [0])
  (.cond (.t 30) (.skip) (.exit 2)))
  (.block 3 (.seq (.reg [Qm 31 6, Q 32 (.bin .mul (kI 2) (.t 31)), Qi 7 0, Qm 8 32] [0,1,2,6,7,8] [0])
  (.seq (.block 4 (.loop slices_stableCmpFunc_impl_Box.l2))
  (.seq (.seq (.reg [Qm 49 7, Qm 50 6, Q 51 (.bin .add (.t 49) (.t 50)), Qm 9 51] [0,1,2,6,7,9] [0])
  (.seq (.reg [Qm 52 9, Qm 53 1, Q 54 (.bin .lss (.t 52) (.t 53))] [0,1,2,6,7,9,54] [0])
  (.cond (.t 54) (.reg [Qm 55 0, Qm 56 7, Qm 57 9, Qm 58 1, Qm 59 2, Q 60 (.call 493 [.t 55, .t 56, .t 57, .t 58, .t 59] [0] [])] [0,1,2,6] [0]) (.skip))))
  (.reg [Qm 61 6, Q 62 (.bin .mul (.t 61) (kI 2)), Qm 6 62] [0,1,2,6] [0])))))
def slices_stableCmpFunc_impl_Box.b : C := .seq (.reg [Qi 6 20] [0,1,2,6] [0])
  (.seq (.reg [Qm 10 6, Qi 7 0, Qm 8 10] [0,1,2,6,7,8] [0])
  (.seq (.block 0 (.loop slices_stableCmpFunc_impl_Box.l0))
  (.seq (.reg [Qm 23 0, Qm 24 7, Qm 25 1, Qm 26 2, Q 27 (.call 492 [.t 23, .t 24, .t 25, .t 26] [0] [])] [0,1,2,6] [0])
  (.block 2 (.loop slices_stableCmpFunc_impl_Box.l1)))))
def slices_stableCmpFunc_impl_Box.m : Fn := { np := 3, body := slices_stableCmpFunc_impl_Box.b, res := [] }
def slices_stableCmpFunc_impl_Box.k (M : Nat → Option Body) : Prop := M 490 = some (.code slices_stableCmpFunc_impl_Box.m) ∧ slices_insertionSortCmpFunc_impl_Box.k M
def slices_SortStableFunc_impl_Box_impl_Box.b : C := .reg [Qm 4 0, Qm 5 0, Q 6 (.len (.t 5)), Qm 7 1, Q 8 (.call 490 [.t 4, .t 6, .t 7] [0] [])] [] [0]
def slices_SortStableFunc_impl_Box_impl_Box.m : Fn := { np := 2, body := slices_SortStableFunc_impl_Box_impl_Box.b, res := [] }
def slices_SortStableFunc_impl_Box_impl_Box.k (M : Nat → Option Body) : Prop := M 480 = some (.code slices_SortStableFunc_impl_Box_impl_Box.m) ∧ slices_stableCmpFunc_impl_Box.k M
def impl_JoinBoxes_3.b : C := .seq (.reg [Qv 2 0, Qv 3 1, Qi 4 0] [2,3] [2,3])
  (.seq (.reg [Qf 5 0 2, Ql 6 5, Qf 7 0 3, Ql 8 7, Q 9 (.call 457 [.t 6, .t 8] [] []), Qm 4 9] [4] [])
  (.ret))
def impl_JoinBoxes_3.m : Fn := { np := 2, body := impl_JoinBoxes_3.b, res := [.tmp 4] }
def impl_JoinBoxes_3.k (M : Nat → Option Body) : Prop := M 481 = some (.code impl_JoinBoxes_3.m) ∧ impl_compare.k M
def slices_ContainsFunc_impl_Box_impl_Box.b : C := .seq (.reg [Qb 4 false] [0,1] [])
  (.seq (.reg [Qm 5 0, Qm 6 1, Q 7 (.call 200 [.t 5, .t 6] [] []), Q 8 (.bin .geq (.t 7) (kI 0)), Qm 4 8] [4] [])
  (.ret))
def slices_ContainsFunc_impl_Box_impl_Box.m : Fn := { np := 2, body := slices_ContainsFunc_impl_Box_impl_Box.b, res := [.tmp 4] }
def slices_ContainsFunc_impl_Box_impl_Box.k (M : Nat → Option Body) : Prop := M 482 = some (.code slices_ContainsFunc_impl_Box_impl_Box.m) ∧ slices_IndexFunc_impl_Box_impl_Box.k M
def impl_JoinBoxes_4.b : C := .seq (.reg [Qv 2 0, Qb 3 false] [1,2] [2])
  (.seq (.reg [Qf 4 1 2, Ql 5 4, Qf 6 1 1, Ql 7 6, Q 8 (.bin .eql (.t 5) (.t 7)), Qm 3 8] [3] [])
  (.ret))
def impl_JoinBoxes_4.m : Fn := { np := 2, body := impl_JoinBoxes_4.b, res := [.tmp 3] }
def impl_JoinBoxes_4.k (M : Nat → Option Body) : Prop := M 483 = some (.code impl_JoinBoxes_4.m)
def impl_OtherName.b : C := .seq (.reg [Q 4 (.mv (.k (.str ⟨#[]⟩)))] [0,1] [])
  (.seq (.reg [Qm 7 0, Qm 8 0, Q 9 (.slen (.t 8)), Q 10 (.min (kI 6) (.t 9)), Q 11 (.sstr (.t 7) none (some (.t 10))), Q 12 (.bin .add (.t 11) (.k (.str ⟨#[120]⟩))), Qm 5 12] [1,5] [])
  (.seq (.seq (.reg [Qm 13 1, Q 14 (.bin .gtr (.t 13) (kI 0))] [1,5,14] [])
  (.cond (.t 14) (.seq (.reg [Qm 15 1, Q 16 (.call 128 [.t 15] [] []), Qm 6 16] [5,6] [])
  (.reg [Qm 17 5, Qm 18 6, Qm 19 6, Q 20 (.slen (.t 19)), Q 21 (.bin .sub (.t 20) (kI 5)), Q 22 (.max (kI 0) (.t 21)), Q 23 (.sstr (.t 18) (some (.t 22)) none),
    Q 24 (.bin .add (.t 17) (.t 23)), Qm 5 24] [5] [])) (.skip)))
  (.seq (.reg [Qm 25 5, Qm 4 25] [4] [])
  (.ret))))
def impl_OtherName.m : Fn := { np := 2, body := impl_OtherName.b, res := [.tmp 4] }
def impl_OtherName.k (M : Nat → Option Body) : Prop := M 484 = some (.code impl_OtherName.m) ∧ impl_Decimal.k M
def impl_JoinBoxes.l0 : C := .seq (.reg [Q 20 (.bin .lss (.t 19) (.t 18))] [0,1,5,7,8,17,18,19,20] [5,16,40,58,16200])
  (.seq (.cond (.t 20) (.skip) (.exit 0))
  (.seq (.block 1 (.seq (.reg [Qa 21 7 17 19, QL 22 7 21, Q 10 (.alloc [.int .i64 0, .str ⟨#[]⟩, .int .i64 0, .int .i64 0, .int .i64 0, .nils 4, .nils 1]), Qs 7 10 22] [0,1,5,7,8,10,17,18,19] [5,10,16,40,58,16200])
  (.seq (.seq (.reg [Qm 23 8, Qm 24 1, Qf 25 0 10, Ql 26 25, Q 27 (.callv (.t 23) [.t 24, .t 26]), Qm 11 27] [0,1,5,7,8,10,11,17,18,19] [5,10,16,40,58,16200])
  (.seq (.reg [Qm 28 11, Q 29 (.bin .geq (.t 28) (kI 0))] [0,1,5,7,8,10,11,17,18,19,29] [5,10,16,40,58,16200])
  (.cond (.t 29) (.regd [QL 30 7 10, Qm 31 1, Qm 32 11, Qa 33 7 31 32, QL 34 7 33, Q 35 (.call 401 [.t 30, .t 34] [] []), Qs 7 10 35] [[], [], [], [1,2], [1,2,3], lr 5, lr 6] [0,1,5,7,8,10,17,18,19] [5,10,16,40,58,16200]) (.skip))))
  (.reg [Qm 36 7, QL 37 7 10, Q 38 (.call 155 [.t 37] [] []), Q 39 (.bslice 7 1 [.int .i64 0, .str ⟨#[]⟩, .int .i64 0, .int .i64 0, .int .i64 0, .nils 4, .nils 1] [(0, .t 38)]),
    Q 40 (.app 7 96 (.t 36) (.t 39)), Qm 7 40] [0,1,5,7,8,17,18,19] [5,16,40,58,16200]))))
  (.reg [Q 41 (.bin .add (.t 19) (kI 1)), Qm 19 41] [0,1,5,7,8,17,18,19] [5,16,40,58,16200])))
def impl_JoinBoxes.l1 : C := .seq (.reg [Q 45 (.bin .lss (.t 44) (.t 43))] [0,5,7,8,42,43,44,45] [5,16,40,58,16200])
  (.seq (.cond (.t 45) (.skip) (.exit 2))
  (.seq (.block 3 (.seq (.reg [Qa 46 7 42 44, QL 47 7 46, Q 13 (.alloc [.int .i64 0, .str ⟨#[]⟩, .int .i64 0, .int .i64 0, .int .i64 0, .nils 4, .nils 1]), Qs 7 13 47] [0,5,7,8,13,42,43,44] [5,13,16,40,58,16200])
  (.seq (.reg [Qm 48 8, Qm 49 0, Qf 50 0 13, Ql 51 50, Q 52 (.callv (.t 48) [.t 49, .t 51]), Q 53 (.bin .lss (.t 52) (kI 0))] [0,5,7,8,13,42,43,44,53] [5,13,16,40,58,16200])
  (.cond (.t 53) (.reg [Qm 54 7, QL 55 7 13, Q 56 (.call 155 [.t 55] [] []), Q 57 (.bslice 7 1 [.int .i64 0, .str ⟨#[]⟩, .int .i64 0, .int .i64 0, .int .i64 0, .nils 4, .nils 1] [(0, .t 56)]),
    Q 58 (.app 7 96 (.t 54) (.t 57)), Qm 7 58] [0,5,7,8,42,43,44] [5,16,40,58,16200]) (.skip)))))
  (.reg [Q 59 (.bin .add (.t 44) (kI 1)), Qm 44 59] [0,5,7,8,42,43,44] [5,16,40,58,16200])))
def impl_JoinBoxes.l2 : C := .seq (.reg [Q 68 (.bin .lss (.t 67) (.t 66))] [7,65,66,67,68] [16,40,58,16200])
  (.seq (.cond (.t 68) (.skip) (.exit 4))
  (.seq (.block 5 (.seq (.reg [Qm 69 67, Qa 70 7 65 67, QL 71 7 70, Q 15 (.alloc [.int .i64 0, .str ⟨#[]⟩, .int .i64 0, .int .i64 0, .int .i64 0, .nils 4, .nils 1]), Qm 14 69, Qs 7 15 71] [7,14,15,65,66,67] [15,16,40,58,16200])
  (.seq (.reg [Qm 72 7, Qm 73 14, Q 74 (.slc 7 (.t 72) none (some (.t 73)) none), Q 75 (.mkfn 483 [.t 15]), Q 76 (.call 482 [.t 74, .t 75] [] [])] [7,14,15,65,66,67,76] [15,16,40,58,16200])
  (.cond (.t 76) (.reg [Qm 77 7, Qm 78 14, Qf 79 1 15, Ql 80 79, Qf 81 0 15, Ql 82 81, Q 83 (.call 484 [.t 80, .t 82] [] []), Qa 84 7 77 78, Qf 85 1 84, Qs 1 85 83] [7,65,66,67] [16,40,58,16200]) (.skip)))))
  (.reg [Q 86 (.bin .add (.t 67) (kI 1)), Qm 67 86] [7,65,66,67] [16,40,58,16200])))
def impl_JoinBoxes.b : C := .seq (.reg [Qv 5 2, Q 6 (.nil 7)] [0,1,5] [5])
  (.seq (.reg [Q 16 (.bslice 7 0 [.int .i64 0, .str ⟨#[]⟩, .int .i64 0, .int .i64 0, .int .i64 0, .nils 4, .nils 1] []), Qm 7 16] [0,1,5,7] [5,16,40,58,16200])
  (.seq (.reg [Q 8 (.mv (.fn 476))] [0,1,5,7,8] [5,16,40,58,16200])
  (.seq (.seq (.reg [Qm 17 0, Q 18 (.len (.t 17)), Qi 19 0] [0,1,5,7,8,17,18,19] [5,16,40,58,16200])
  (.block 0 (.loop impl_JoinBoxes.l0)))
  (.seq (.seq (.reg [Qm 42 1, Q 43 (.len (.t 42)), Qi 44 0] [0,5,7,8,42,43,44] [5,16,40,58,16200])
  (.block 2 (.loop impl_JoinBoxes.l1)))
  (.seq (.shut [5] (.reg [Qm 60 7, Q 61 (.mkfn 479 [.t 5]), Q 62 (.call 478 [.t 60, .t 61] [0] [(0, 16200)]), Qm 7 62] [7] [16,40,58,16200]))
  (.seq (.reg [Qm 63 7, Q 64 (.call 480 [.t 63, .fn 481] [0] [])] [7] [16,40,58,16200])
  (.seq (.seq (.reg [Qm 65 7, Q 66 (.len (.t 65)), Qi 67 0] [7,65,66,67] [16,40,58,16200])
  (.block 4 (.loop impl_JoinBoxes.l2)))
  (.seq (.reg [Qm 87 7, Qm 6 87] [6] [6,16,40,58,16200])
  (.ret)))))))))
def impl_JoinBoxes.m : Fn := { np := 3, body := impl_JoinBoxes.b, res := [.tmp 6] }
def impl_JoinBoxes.k (M : Nat → Option Body) : Prop := M 467 = some (.code impl_JoinBoxes.m) ∧ impl_copyBox.k M ∧ impl_JoinBox.k M ∧ impl_JoinBoxes_1.k M ∧ slices_DeleteFunc_impl_Box_impl_Box.k M ∧ impl_JoinBoxes_2.k M ∧ slices_SortStableFunc_impl_Box_impl_Box.k M ∧ impl_JoinBoxes_3.k M ∧ slices_ContainsFunc_impl_Box_impl_Box.k M ∧ impl_JoinBoxes_4.k M ∧ impl_OtherName.k M
def impl_JoinStore.l1 : C := .seq (.reg [Q 49 (.bin .lss (.t 48) (.t 47))] [4,6,7,8,9,10,37,38,39,46,47,48,49] [4,6,9,35,44,60,73,11900,13300])
  (.seq (.cond (.t 49) (.skip) (.exit 2))
  (.seq (.block 3 (.seq (.reg [Qa 50 4 46 48, QL 51 4 50, Q 12 (.alloc [.int .i64 0, .int .i64 0, .nils 3, .str ⟨#[]⟩]), Qs 4 12 51] [4,6,7,8,9,10,12,37,38,39,46,47,48] [4,6,9,12,35,44,60,73,11900,13300])
  (.seq (.reg [Qm 52 7, Qf 53 0 12, Ql 54 53, Q 55 (.call 156 [.t 52, .t 54] [] []), Q 56 (.not (.t 55))] [4,6,7,8,9,10,12,37,38,39,46,47,48,56] [4,6,9,12,35,44,60,73,11900,13300])
  (.cond (.t 56) (.reg [Qm 57 10, QL 58 4 12, Q 59 (.bslice 4 1 [.int .i64 0, .int .i64 0, .nils 3, .str ⟨#[]⟩] [(0, .t 58)]), Q 60 (.app 4 56 (.t 57) (.t 59)), Qm 10 60] [4,6,7,8,9,10,37,38,39,46,47,48] [4,6,9,35,44,60,73,11900,13300]) (.skip)))))
  (.reg [Q 61 (.bin .add (.t 48) (kI 1)), Qm 48 61] [4,6,7,8,9,10,37,38,39,46,47,48] [4,6,9,35,44,60,73,11900,13300])))
def impl_JoinStore.l2 : C := .seq (.reg [Q 66 (.bin .lss (.t 65) (.t 64))] [4,6,7,8,10,37,38,39,63,64,65,66] [4,6,35,44,60,73,11900,13300])
  (.seq (.cond (.t 66) (.skip) (.exit 4))
  (.seq (.block 5 (.seq (.reg [Qa 67 4 63 65, QL 68 4 67, Q 14 (.alloc [.int .i64 0, .int .i64 0, .nils 3, .str ⟨#[]⟩]), Qs 4 14 68] [4,6,7,8,10,14,37,38,39,63,64,65] [4,6,14,35,44,60,73,11900,13300])
  (.reg [Qm 69 7, Qf 70 0 14, Ql 71 70, Q 72 (.bslice 1 1 [.int .i64 0] [(0, .t 71)]), Q 73 (.app 1 8 (.t 69) (.t 72)), Qm 7 73] [4,6,7,8,10,37,38,39,63,64,65] [4,6,35,44,60,73,11900,13300])))
  (.reg [Q 74 (.bin .add (.t 65) (kI 1)), Qm 65 74] [4,6,7,8,10,37,38,39,63,64,65] [4,6,35,44,60,73,11900,13300])))
def impl_JoinStore.l0 : C := .seq (.reg [Q 40 (.bin .lss (.t 39) (.t 38))] [4,6,7,37,38,39,40] [4,6,35,73,11900,13300])
  (.seq (.cond (.t 40) (.skip) (.exit 0))
  (.seq (.block 1 (.seq (.reg [Qm 41 39, Qa 42 7 37 39, QL 43 7 42, Q 9 (.alloc [.int .i64 0, .str ⟨#[]⟩, .int .i64 0, .int .i64 0, .int .i64 0, .nils 4, .nils 1]), Qm 8 41, Qs 7 9 43] [4,6,7,8,9,37,38,39] [4,6,9,35,73,11900,13300])
  (.seq (.reg [Q 44 (.bslice 4 0 [.int .i64 0, .int .i64 0, .nils 3, .str ⟨#[]⟩] []), Qm 10 44] [4,6,7,8,9,10,37,38,39] [4,6,9,35,44,60,73,11900,13300])
  (.seq (.seq (.reg [Qf 45 5 9, Ql 46 45, Q 47 (.len (.t 46)), Qi 48 0] [4,6,7,8,9,10,37,38,39,46,47,48] [4,6,9,35,44,60,73,11900,13300])
  (.block 2 (.loop impl_JoinStore.l1)))
  (.seq (.seq (.reg [Qf 62 5 9, Ql 63 62, Q 64 (.len (.t 63)), Qi 65 0] [4,6,7,8,10,37,38,39,63,64,65] [4,6,35,44,60,73,11900,13300])
  (.block 4 (.loop impl_JoinStore.l2)))
  (.shut [44,60] (.reg [Qf 75 2 6, Ql 76 75, Qm 77 8, Qm 78 10, Qa 79 7 76 77, Qf 80 5 79, Qs 1 80 78] [4,6,7,37,38,39] [4,6,35,73,11900,13300])))))))
  (.reg [Q 81 (.bin .add (.t 39) (kI 1)), Qm 39 81] [4,6,7,37,38,39] [4,6,35,73,11900,13300])))
def impl_JoinStore.b : C := .seq (.reg [Qv 2 0, Qv 3 1, Q 4 (.alloc [.int .i64 0, .int .i64 0, .nils 7, .nils 1])] [2,3,4] [2,3,4,11900,13300])
  (.seq (.reg [Qf 15 3 2, Ql 16 15, Qf 17 3 3, Ql 18 17, Q 19 (.call 44 [.t 16, .t 18] [] [(0, 11900)]), Qm 5 19] [2,3,4,5] [2,3,4,11900,13300])
  (.seq (.shut [11900] (.regd [Qf 20 0 2, Ql 21 20, Qf 22 1 2, Ql 23 22, Qf 24 1 3, Ql 25 24, Q 26 (.max (.t 23) (.t 25)), Qm 27 5, Qf 28 2 2, Ql 29 28, Qf 30 2 3, Ql 31 30, Qm 32 5,
    Q 33 (.call 467 [.t 29, .t 31, .t 32] [] [(0, 13300)]), Q 34 (.build [.int .i64 0, .int .i64 0, .nils 7, .nils 1] [(0, 1, .t 21), (1, 1, .t 26), (3, 1, .t 27), (2, 1, .t 33)]),
    Q 6 (.alloc [.int .i64 0, .int .i64 0, .nils 7, .nils 1]), Qs 4 6 34] [[], [0], [], [2], [], [4], [2,3,4,5], [], [], [8], [], [10], [], [8,9,10,11,12], lr 14, [], lr 16] [4,6] [4,6,11900,13300]))
  (.seq (.reg [Q 35 (.bslice 1 0 [.int .i64 0] []), Qm 7 35] [4,6,7] [4,6,35,73,11900,13300])
  (.seq (.seq (.reg [Qf 36 2 6, Ql 37 36, Q 38 (.len (.t 37)), Qi 39 0] [4,6,7,37,38,39] [4,6,35,73,11900,13300])
  (.block 0 (.loop impl_JoinStore.l0)))
  (.seq (.reg [QL 82 4 6, Qs 4 4 82] [4] [4,11900,13300])
  (.ret))))))
def impl_JoinStore.m : Fn := { np := 2, body := impl_JoinStore.b, res := [.cell 4 true 4] }
def impl_JoinStore.k (M : Nat → Option Body) : Prop := M 447 = some (.code impl_JoinStore.m) ∧ impl_JoinGone.k M ∧ slices_Contains_int_int.k M ∧ impl_JoinBoxes.k M
def impl_FitsStore.b : C := .seq (.reg [Qv 2 0, Qv 3 1, Qb 4 false] [2,3] [2,3])
  (.seq (.reg [QL 5 4 2, Q 6 (.call 150 [.t 5] [] []), Qm 7 6, Qg 8 (.load true 4 (.t 3)) 7 true, Qg 9 (.call 150 [.t 8] [] []) 7 true, Q 10 (.pick (.t 7) (.t 9) (kB false)), Qm 11 10,
    Qg 12 (.load true 4 (.t 2)) 11 true, Qg 13 (.load true 4 (.t 3)) 11 true, Qg 14 (.call 447 [.t 12, .t 13] [] []) 11 true, Qg 15 (.call 150 [.t 14] [] []) 11 true,
    Q 16 (.pick (.t 11) (.t 15) (kB false)), Qm 4 16] [4] [])
  (.ret))
def impl_FitsStore.m : Fn := { np := 2, body := impl_FitsStore.b, res := [.tmp 4] }
def impl_FitsStore.k (M : Nat → Option Body) : Prop := M 433 = some (.code impl_FitsStore.m) ∧ impl_StoreOk.k M ∧ impl_JoinStore.k M
def spec_l09At.l0 : C := .seq (.seq (.reg [Qm 6 5, Qm 7 0, Q 8 (.len (.t 7)), Q 9 (.bin .lss (.t 6) (.t 8))] [0,1,5,9] [])
  (.cond (.t 9) (.skip) (.exit 0)))
  (.seq (.block 1 (.seq (.reg [Qm 12 0, Qm 13 5, Qa 14 7 12 13, Qf 15 0 14, Ql 16 15, Qm 17 1, Q 18 (.bin .eql (.t 16) (.t 17))] [0,1,5,18] [])
  (.cond (.t 18) (.seq (.reg [Qm 19 5, Qm 4 19] [4] [])
  (.ret)) (.skip))))
  (.reg [Qm 10 5, Q 11 (.bin .add (.t 10) (kI 1)), Qm 5 11] [0,1,5] []))
def spec_l09At.b : C := .seq (.reg [Qi 4 0] [0,1] [])
  (.seq (.seq (.reg [Qi 5 0] [0,1,5] [])
  (.block 0 (.loop spec_l09At.l0)))
  (.seq (.reg [Qi 4 (-1)] [4] [])
  (.ret)))
def spec_l09At.m : Fn := { np := 2, body := spec_l09At.b, res := [.tmp 4] }
def spec_l09At.k (M : Nat → Option Body) : Prop := M 474 = some (.code spec_l09At.m)
def spec_OtherName.b : C := .seq (.reg [Q 4 (.mv (.k (.str ⟨#[]⟩)))] [0,1] [])
  (.seq (.reg [Qm 7 0, Qm 5 7] [1,5] [])
  (.seq (.seq (.reg [Qm 8 5, Q 9 (.slen (.t 8)), Q 10 (.bin .gtr (.t 9) (kI 6))] [1,5,10] [])
  (.cond (.t 10) (.reg [Qm 11 5, Q 12 (.sstr (.t 11) none (some (kI 6))), Qm 5 12] [1,5] []) (.skip)))
  (.seq (.reg [Q 6 (.mv (.k (.str ⟨#[]⟩)))] [1,5,6] [])
  (.seq (.seq (.reg [Qm 13 1, Q 14 (.bin .gtr (.t 13) (kI 0))] [1,5,6,14] [])
  (.cond (.t 14) (.reg [Qm 15 1, Q 16 (.call 197 [.t 15] [] []), Qm 6 16] [5,6] []) (.skip)))
  (.seq (.seq (.reg [Qm 17 6, Q 18 (.slen (.t 17)), Q 19 (.bin .gtr (.t 18) (kI 5))] [5,6,19] [])
  (.cond (.t 19) (.reg [Qm 20 6, Qm 21 6, Q 22 (.slen (.t 21)), Q 23 (.bin .sub (.t 22) (kI 5)), Q 24 (.sstr (.t 20) (some (.t 23)) none), Qm 6 24] [5,6] []) (.skip)))
  (.seq (.reg [Qm 25 5, Q 26 (.bin .add (.t 25) (.k (.str ⟨#[120]⟩))), Qm 27 6, Q 28 (.bin .add (.t 26) (.t 27)), Qm 4 28] [4] [])
  (.ret)))))))
def spec_OtherName.m : Fn := { np := 2, body := spec_OtherName.b, res := [.tmp 4] }
def spec_OtherName.k (M : Nat → Option Body) : Prop := M 475 = some (.code spec_OtherName.m) ∧ spec_Decimal.k M
def spec_JoinBoxes.l0 : C := .seq (.seq (.reg [Qm 17 8, Qm 18 0, Q 19 (.len (.t 18)), Q 20 (.bin .lss (.t 17) (.t 19))] [0,1,2,7,8,20] [16])
  (.cond (.t 20) (.skip) (.exit 0)))
  (.seq (.block 1 (.seq (.reg [Qm 23 7, Qm 24 0, Qm 25 8, Qa 26 7 24 25, Qf 27 0 26, Ql 28 27, Q 29 (.call 132 [.t 23, .t 28] [] []), Q 30 (.not (.t 29))] [0,1,2,7,8,30] [16])
  (.cond (.t 30) (.reg [Qm 31 7, Qm 32 0, Qm 33 8, Qa 34 7 32 33, Qf 35 0 34, Ql 36 35, Q 37 (.call 133 [.t 31, .t 36] [] [(0, 16)]), Qm 7 37] [0,1,2,7,8] [16]) (.skip))))
  (.reg [Qm 21 8, Q 22 (.bin .add (.t 21) (kI 1)), Qm 8 22] [0,1,2,7,8] [16]))
def spec_JoinBoxes.l1 : C := .seq (.seq (.reg [Qm 38 9, Qm 39 1, Q 40 (.len (.t 39)), Q 41 (.bin .lss (.t 38) (.t 40))] [0,1,2,7,9,41] [16])
  (.cond (.t 41) (.skip) (.exit 2)))
  (.seq (.block 3 (.seq (.reg [Qm 44 7, Qm 45 1, Qm 46 9, Qa 47 7 45 46, Qf 48 0 47, Ql 49 48, Q 50 (.call 132 [.t 44, .t 49] [] []), Q 51 (.not (.t 50))] [0,1,2,7,9,51] [16])
  (.cond (.t 51) (.reg [Qm 52 7, Qm 53 1, Qm 54 9, Qa 55 7 53 54, Qf 56 0 55, Ql 57 56, Q 58 (.call 133 [.t 52, .t 57] [] [(0, 16)]), Qm 7 58] [0,1,2,7,9] [16]) (.skip))))
  (.reg [Qm 42 9, Q 43 (.bin .add (.t 42) (kI 1)), Qm 9 43] [0,1,2,7,9] [16]))
def spec_JoinBoxes.l2 : C := .seq (.seq (.reg [Qm 60 11, Qm 61 7, Q 62 (.len (.t 61)), Q 63 (.bin .lss (.t 60) (.t 62))] [0,1,2,7,10,11,63] [16,59,91,110,121])
  (.cond (.t 63) (.skip) (.exit 4)))
  (.seq (.block 5 (.seq (.seq (.reg [Qm 66 2, Qm 67 7, Qm 68 11, Qa 69 1 67 68, Ql 70 69, Q 71 (.call 132 [.t 66, .t 70] [] [])] [0,1,2,7,10,11,71] [16,59,91,110,121])
  (.cond (.t 71) (.exit 5) (.skip)))
  (.seq (.reg [Qm 72 0, Qm 73 7, Qm 74 11, Qa 75 1 73 74, Ql 76 75, Q 77 (.call 474 [.t 72, .t 76] [] []), Qm 12 77] [0,1,2,7,10,11,12] [16,59,91,110,121])
  (.seq (.reg [Qm 78 1, Qm 79 7, Qm 80 11, Qa 81 1 79 80, Ql 82 81, Q 83 (.call 474 [.t 78, .t 82] [] []), Qm 13 83] [0,1,2,7,10,11,12,13] [16,59,91,110,121])
  (.block 6 (.seq (.reg [Qm 93 12, Q 94 (.bin .geq (.t 93) (kI 0)), Qm 95 94, Qg 96 (.mv (.t 13)) 95 true, Qg 97 (.bin .geq (.t 96) (kI 0)) 95 true, Q 98 (.pick (.t 95) (.t 97) (kB false)), Qm 92 98] [0,1,2,7,10,11,12,13,92] [16,59,91,110,121])
  (.cond (.t 92) (.regd [Qm 99 10, Qm 100 0, Qm 101 12, Qa 102 7 100 101, QL 103 7 102, Qm 104 1, Qm 105 13, Qa 106 7 104 105, QL 107 7 106, Q 108 (.call 405 [.t 103, .t 107] [] []),
    Q 109 (.bslice 7 1 [.int .i64 0, .str ⟨#[]⟩, .int .i64 0, .int .i64 0, .int .i64 0, .nils 4, .nils 1] [(0, .t 108)]), Q 110 (.app 7 96 (.t 99) (.t 109)), Qm 10 110] [[], [], [], [1,2], [1,2,3], [], [], [5,6], [5,6,7], [1,2,3,4,5,6,7,8], [1,2,3,4,5,6,7,8,9], lr 11, lr 12] [0,1,2,7,10,11] [16,59,91,110,121]) (.seq (.reg [Qm 112 12, Q 113 (.bin .geq (.t 112) (kI 0)), Qm 111 113] [0,1,2,7,10,11,12,13,111] [16,59,91,110,121])
  (.cond (.t 111) (.reg [Qm 114 10, Qm 115 0, Qm 116 12, Qa 117 7 115 116, QL 118 7 117, Q 119 (.call 180 [.t 118] [] []),
    Q 120 (.bslice 7 1 [.int .i64 0, .str ⟨#[]⟩, .int .i64 0, .int .i64 0, .int .i64 0, .nils 4, .nils 1] [(0, .t 119)]), Q 121 (.app 7 96 (.t 114) (.t 120)), Qm 10 121] [0,1,2,7,10,11] [16,59,91,110,121]) (.reg [Qm 84 10, Qm 85 1, Qm 86 13, Qa 87 7 85 86, QL 88 7 87, Q 89 (.call 180 [.t 88] [] []),
    Q 90 (.bslice 7 1 [.int .i64 0, .str ⟨#[]⟩, .int .i64 0, .int .i64 0, .int .i64 0, .nils 4, .nils 1] [(0, .t 89)]), Q 91 (.app 7 96 (.t 84) (.t 90)), Qm 10 91] [0,1,2,7,10,11] [16,59,91,110,121]))))))))))
  (.reg [Qm 64 11, Q 65 (.bin .add (.t 64) (kI 1)), Qm 11 65] [0,1,2,7,10,11] [16,59,91,110,121]))
def spec_JoinBoxes.l4 : C := .seq (.seq (.reg [Qm 128 15, Qm 129 14, Q 130 (.bin .lss (.t 128) (.t 129))] [10,14,15,130] [59,91,110,121])
  (.cond (.t 130) (.skip) (.exit 9)))
  (.seq (.block 10 (.seq (.regd [Qm 133 10, Qm 134 15, Qa 135 7 133 134, Qf 136 1 135, Ql 137 136, Qm 138 10, Qm 139 14, Qa 140 7 138 139, Qf 141 1 140, Ql 142 141, Q 143 (.bin .eql (.t 137) (.t 142))] [[], [], [0,1], [0,1,2], lr 4, [], [], [5,6], [5,6,7], [5,6,7,8], lr 10] [10,14,15,143] [59,91,110,121])
  (.cond (.t 143) (.seq (.regd [Qm 144 10, Qm 145 14, Qm 146 10, Qm 147 14, Qa 148 7 146 147, Qf 149 1 148, Ql 150 149, Qm 151 10, Qm 152 14, Qa 153 7 151 152, Qf 154 0 153, Ql 155 154,
    Q 156 (.call 475 [.t 150, .t 155] [] []), Qa 157 7 144 145, Qf 158 1 157, Qs 1 158 156] [[], [], [], [], [2,3], [2,3,4], [2,3,4,5], [], [], [7,8], [7,8,9], [7,8,9,10], [2,3,4,5,6,7,8,9,10,11], lr 13, lr 14, lr 15] [10,14] [59,91,110,121])
  (.exit 9)) (.skip))))
  (.reg [Qm 131 15, Q 132 (.bin .add (.t 131) (kI 1)), Qm 15 132] [10,14,15] [59,91,110,121]))
def spec_JoinBoxes.l3 : C := .seq (.seq (.reg [Qm 122 14, Qm 123 10, Q 124 (.len (.t 123)), Q 125 (.bin .lss (.t 122) (.t 124))] [10,14,125] [59,91,110,121])
  (.cond (.t 125) (.skip) (.exit 7)))
  (.seq (.block 8 (.seq (.reg [Qi 15 0] [10,14,15] [59,91,110,121])
  (.block 9 (.loop spec_JoinBoxes.l4))))
  (.reg [Qm 126 14, Q 127 (.bin .add (.t 126) (kI 1)), Qm 14 127] [10,14] [59,91,110,121]))
def spec_JoinBoxes.b : C := .seq (.reg [Q 6 (.nil 7)] [0,1,2] [])
  (.seq (.reg [Q 16 (.bslice 1 0 [.int .i64 0] []), Qm 7 16] [0,1,2,7] [16])
  (.seq (.seq (.reg [Qi 8 0] [0,1,2,7,8] [16])
  (.block 0 (.loop spec_JoinBoxes.l0)))
  (.seq (.seq (.reg [Qi 9 0] [0,1,2,7,9] [16])
  (.block 2 (.loop spec_JoinBoxes.l1)))
  (.seq (.reg [Q 59 (.bslice 7 0 [.int .i64 0, .str ⟨#[]⟩, .int .i64 0, .int .i64 0, .int .i64 0, .nils 4, .nils 1] []), Qm 10 59] [0,1,2,7,10] [16,59,91,110,121])
  (.seq (.seq (.reg [Qi 11 0] [0,1,2,7,10,11] [16,59,91,110,121])
  (.block 4 (.loop spec_JoinBoxes.l2)))
  (.seq (.seq (.reg [Qi 14 0] [10,14] [59,91,110,121])
  (.block 7 (.loop spec_JoinBoxes.l3)))
  (.seq (.reg [Qm 159 10, Qm 6 159] [6] [6,59,91,110,121])
  (.ret))))))))
def spec_JoinBoxes.m : Fn := { np := 3, body := spec_JoinBoxes.b, res := [.tmp 6] }
def spec_JoinBoxes.k (M : Nat → Option Body) : Prop := M 466 = some (.code spec_JoinBoxes.m) ∧ spec_l06In.k M ∧ spec_l06Put.k M ∧ spec_l06Copy.k M ∧ spec_JoinBox.k M ∧ spec_l09At.k M ∧ spec_OtherName.k M
def spec_JoinStore.l1 : C := .seq (.seq (.reg [Qm 46 9, Qf 47 2 5, Ql 48 47, Qm 49 7, Qa 50 7 48 49, Qf 51 5 50, Ql 52 51, Q 53 (.len (.t 52)), Q 54 (.bin .lss (.t 46) (.t 53))] [4,5,6,7,8,9,54] [4,5,37,45,74,79,11900,13500])
  (.cond (.t 54) (.skip) (.exit 2)))
  (.seq (.block 3 (.seq (.reg [Qf 57 2 5, Ql 58 57, Qm 59 7, Qa 60 7 58 59, Qf 61 5 60, Ql 62 61, Qm 63 9, Qa 64 4 62 63, QL 65 4 64, Q 10 (.alloc [.int .i64 0, .int .i64 0, .nils 3, .str ⟨#[]⟩]), Qs 4 10 65] [4,5,6,7,8,9,10] [4,5,10,37,45,74,79,11900,13500])
  (.seq (.reg [Qm 66 6, Qf 67 0 10, Ql 68 67, Q 69 (.call 132 [.t 66, .t 68] [] []), Q 70 (.not (.t 69))] [4,5,6,7,8,9,10,70] [4,5,10,37,45,74,79,11900,13500])
  (.cond (.t 70) (.seq (.reg [Qm 71 8, QL 72 4 10, Q 73 (.bslice 4 1 [.int .i64 0, .int .i64 0, .nils 3, .str ⟨#[]⟩] [(0, .t 72)]), Q 74 (.app 4 56 (.t 71) (.t 73)), Qm 8 74] [4,5,6,7,8,9,10] [4,5,10,37,45,74,79,11900,13500])
  (.reg [Qm 75 6, Qf 76 0 10, Ql 77 76, Q 78 (.bslice 1 1 [.int .i64 0] [(0, .t 77)]), Q 79 (.app 1 8 (.t 75) (.t 78)), Qm 6 79] [4,5,6,7,8,9] [4,5,37,45,74,79,11900,13500])) (.skip)))))
  (.reg [Qm 55 9, Q 56 (.bin .add (.t 55) (kI 1)), Qm 9 56] [4,5,6,7,8,9] [4,5,37,45,74,79,11900,13500]))
def spec_JoinStore.l0 : C := .seq (.seq (.reg [Qm 38 7, Qf 39 2 5, Ql 40 39, Q 41 (.len (.t 40)), Q 42 (.bin .lss (.t 38) (.t 41))] [4,5,6,7,42] [4,5,37,79,11900,13500])
  (.cond (.t 42) (.skip) (.exit 0)))
  (.seq (.block 1 (.seq (.reg [Q 45 (.bslice 4 0 [.int .i64 0, .int .i64 0, .nils 3, .str ⟨#[]⟩] []), Qm 8 45] [4,5,6,7,8] [4,5,37,45,74,79,11900,13500])
  (.seq (.seq (.reg [Qi 9 0] [4,5,6,7,8,9] [4,5,37,45,74,79,11900,13500])
  (.block 2 (.loop spec_JoinStore.l1)))
  (.shut [45,74] (.reg [Qf 80 2 5, Ql 81 80, Qm 82 7, Qm 83 8, Qa 84 7 81 82, Qf 85 5 84, Qs 1 85 83] [4,5,6,7] [4,5,37,79,11900,13500])))))
  (.reg [Qm 43 7, Q 44 (.bin .add (.t 43) (kI 1)), Qm 7 44] [4,5,6,7] [4,5,37,79,11900,13500]))
def spec_JoinStore.b : C := .seq (.reg [Qv 2 0, Qv 3 1, Q 4 (.alloc [.int .i64 0, .int .i64 0, .nils 7, .nils 1])] [2,3,4] [2,3,4,11900,13500])
  (.seq (.regd [Qf 11 0 2, Ql 12 11, Qf 13 1 2, Ql 14 13, Qf 15 3 2, Ql 16 15, Qf 17 3 3, Ql 18 17, Q 19 (.call 43 [.t 16, .t 18] [] [(0, 11900)]),
    Q 20 (.build [.int .i64 0, .int .i64 0, .nils 7, .nils 1] [(0, 1, .t 12), (1, 1, .t 14), (3, 1, .t 19)]), Q 5 (.alloc [.int .i64 0, .int .i64 0, .nils 7, .nils 1]), Qs 4 5 20] [[], [0], [], [2], [], [4], [], [6], [4,5,6,7], lr 9, [], lr 11] [2,3,4,5] [2,3,4,5,11900,13500])
  (.seq (.seq (.reg [Qf 21 1 3, Ql 22 21, Qf 23 1 2, Ql 24 23, Q 25 (.bin .gtr (.t 22) (.t 24))] [2,3,4,5,25] [2,3,4,5,11900,13500])
  (.cond (.t 25) (.reg [Qf 26 1 3, Ql 27 26, Qf 28 1 5, Qs 1 28 27] [2,3,4,5] [2,3,4,5,11900,13500]) (.skip)))
  (.seq (.shut [11900] (.reg [Qf 29 2 2, Ql 30 29, Qf 31 2 3, Ql 32 31, Qf 33 3 5, Ql 34 33, Q 35 (.call 466 [.t 30, .t 32, .t 34] [] [(0, 13500)]), Qf 36 2 5, Qs 1 36 35] [4,5] [4,5,11900,13500]))
  (.seq (.reg [Q 37 (.bslice 1 0 [.int .i64 0] []), Qm 6 37] [4,5,6] [4,5,37,79,11900,13500])
  (.seq (.seq (.reg [Qi 7 0] [4,5,6,7] [4,5,37,79,11900,13500])
  (.block 0 (.loop spec_JoinStore.l0)))
  (.seq (.reg [QL 86 4 5, Qs 4 4 86] [4] [4,11900,13500])
  (.ret)))))))
def spec_JoinStore.m : Fn := { np := 2, body := spec_JoinStore.b, res := [.cell 4 true 4] }
def spec_JoinStore.k (M : Nat → Option Body) : Prop := M 446 = some (.code spec_JoinStore.m) ∧ spec_JoinGone.k M ∧ spec_l06In.k M ∧ spec_JoinBoxes.k M
def spec_FitsStore.b : C := .seq (.reg [Qv 2 0, Qv 3 1, Qb 4 false] [2,3] [2,3])
  (.seq (.reg [QL 5 4 2, Q 6 (.call 149 [.t 5] [] []), Qm 7 6, Qg 8 (.load true 4 (.t 3)) 7 true, Qg 9 (.call 149 [.t 8] [] []) 7 true, Q 10 (.pick (.t 7) (.t 9) (kB false)), Qm 11 10,
    Qg 12 (.load true 4 (.t 2)) 11 true, Qg 13 (.load true 4 (.t 3)) 11 true, Qg 14 (.call 446 [.t 12, .t 13] [] []) 11 true, Qg 15 (.call 149 [.t 14] [] []) 11 true,
    Q 16 (.pick (.t 11) (.t 15) (kB false)), Qm 4 16] [4] [])
  (.ret))
def spec_FitsStore.m : Fn := { np := 2, body := spec_FitsStore.b, res := [.tmp 4] }
def spec_FitsStore.k (M : Nat → Option Body) : Prop := M 432 = some (.code spec_FitsStore.m) ∧ spec_StoreOk.k M ∧ spec_JoinStore.k M
end Mx

namespace Mx
open Go
def spec_l09Two.b : C := .seq (.reg [Q 2 (.alloc [.int .i64 0, .int .i64 0, .nils 7, .nils 1]), Q 3 (.alloc [.int .i64 0, .int .i64 0, .nils 7, .nils 1])] [0,2,3] [0,2,3])
  (.seq (.reg [Qm 10 0, Q 11 (.call 125 [.t 10, kI 8] [0] []), Qm 4 11] [0,2,3,4] [0,2,3])
  (.seq (.reg [Qm 12 0, Q 13 (.call 125 [.t 12, kI 8] [0] []), Qm 5 13] [0,2,3,4,5] [0,2,3])
  (.seq (.reg [Qm 14 0, Q 15 (.call 125 [.t 14, kI 8] [0] []), Qm 6 15] [0,2,3,4,5,6] [0,2,3])
  (.seq (.reg [Qm 16 0, Q 17 (.call 113 [kI 1] [] []), Qm 18 6, Q 19 (.call 244 [.t 16, .t 17, .t 18, kI 100] [0] []), Q 7 (.alloc [.int .i64 0, .int .i64 0, .nils 7, .nils 1]), Qs 4 7 19] [0,2,3,4,5,7] [0,2,3,7])
  (.seq (.shut [] (.regd [Q 20 (.call 113 [kI 2] [] []), QL 21 4 7, Q 22 (.call 446 [.t 20, .t 21] [] []), Q 8 (.alloc [.int .i64 0, .int .i64 0, .nils 7, .nils 1]), Qs 4 8 22] [[], [], [0,1], [], lr 4] [0,2,3,4,5,7,8] [0,2,3,7,8]))
  (.seq (.shut [] (.reg [Qm 23 0, QL 24 4 7, Qm 25 4, Q 26 (.call 244 [.t 23, .t 24, .t 25, kI 200] [0] []), Qs 4 7 26] [0,2,3,5,7,8] [0,2,3,7,8]))
  (.seq (.shut [] (.reg [Qm 27 0, QL 28 4 8, Qm 29 5, Q 30 (.call 244 [.t 27, .t 28, .t 29, kI 300] [0] []), Qs 4 8 30] [0,2,3,7,8] [0,2,3,7,8]))
  (.seq (.seq (.reg [Qm 31 0, Q 32 (.call 175 [.t 31, kI 3] [0] [])] [0,2,3,7,8,32] [0,2,3,7,8])
  (.cond (.t 32) (.seq (.shut [] (.reg [QL 33 4 7, QL 34 4 8, Q 35 (.call 446 [.t 33, .t 34] [] []), Q 9 (.alloc [.int .i64 0, .int .i64 0, .nils 7, .nils 1]), Qs 4 9 35] [0,2,3,7,8,9] [0,2,3,7,8,9]))
  (.seq (.seq (.reg [QL 36 4 9, Q 37 (.call 149 [.t 36] [] [])] [0,2,3,7,8,9,37] [0,2,3,7,8,9])
  (.cond (.t 37) (.regd [Qm 38 0, QL 39 4 9, Qm 40 0, Q 41 (.call 125 [.t 40, kI 5] [0] []), Q 42 (.call 244 [.t 38, .t 39, .t 41, kI 400] [0] []), Qs 4 7 42] [[], [], [], [2], lr 4, lr 5] [0,2,3,7,8] [0,2,3,7,8]) (.skip)))
  (.shut [] (.regd [Qm 43 0, QL 44 4 8, Qm 45 0, Q 46 (.call 125 [.t 45, kI 5] [0] []), Q 47 (.call 244 [.t 43, .t 44, .t 46, kI 500] [0] []), Qs 4 8 47] [[], [], [], [2], lr 4, lr 5] [2,3,7,8] [0,2,3,7,8])))) (.skip)))
  (.seq (.regd [QL 48 4 7, QL 49 4 8, Qs 4 2 48, Qs 4 3 49] [[], [], [0], [0,1,2]] [2,3] [0,2,3])
  (.ret))))))))))
def spec_l09Two.m : Fn := { np := 1, body := spec_l09Two.b, res := [.cell 2 true 4, .cell 3 true 4] }
def spec_l09Two.k (M : Nat → Option Body) : Prop := M 511 = some (.code spec_l09Two.m) ∧ spec_StoreNew.k M ∧ spec_l01Below.k M ∧ spec_StoreOk.k M ∧ spec_l01Once.k M ∧ spec_l07Use.k M ∧ spec_JoinStore.k M
def spec_DrawTwoStores.b : C := .seq (.reg [Q 2 (.alloc [.int .i64 0, .int .i64 0, .nils 7, .nils 1]), Q 3 (.alloc [.int .i64 0, .int .i64 0, .nils 7, .nils 1])] [0,2,3] [2,3])
  (.seq (.reg [Qm 4 0, Q 5 (.call 124 [.t 4] [] [(0, 10500)]), Q 6 (.call 511 [.t 5] [0] []), Qx 7 0 6, Qx 8 1 6, Qs 4 2 7, Qs 4 3 8] [2,3] [2,3])
  (.ret))
def spec_DrawTwoStores.m : Fn := { np := 1, body := spec_DrawTwoStores.b, res := [.cell 2 true 4, .cell 3 true 4] }
def spec_DrawTwoStores.k (M : Nat → Option Body) : Prop := M 503 = some (.code spec_DrawTwoStores.m) ∧ spec_l01New.k M ∧ spec_l09Two.k M
end Mx

namespace Mx
open Go
def impl_told.b : C := .seq (.reg [Q 2 (.mv (.k (.str ⟨#[]⟩)))] [0] [])
  (.seq (.reg [Qm 3 0, Q 4 (.max (kI 0) (.t 3)), Q 5 (.call 128 [.t 4] [] []), Qm 2 5] [2] [])
  (.ret))
def impl_told.m : Fn := { np := 1, body := impl_told.b, res := [.tmp 2] }
def impl_told.k (M : Nat → Option Body) : Prop := M 512 = some (.code impl_told.m) ∧ impl_Decimal.k M
def impl_Hex.l0 : C := .seq (.seq (.reg [Qm 13 5, Qm 14 0, Q 15 (.slen (.t 14)), Q 16 (.bin .lss (.t 13) (.t 15))] [0,4,5,16] [12,31])
  (.cond (.t 16) (.skip) (.exit 0)))
  (.seq (.block 1 (.regd [Qm 19 4, Qm 20 0, Qm 21 5, Q 22 (.idx (.t 20) (.t 21)), Q 23 (.bin .shr (.t 22) (.k (.int .u64 4))),
    Q 24 (.idx (.k (.str ⟨#[48,49,50,51,52,53,54,55,56,57,97,98,99,100,101,102]⟩)) (.t 23)), Qm 25 0, Qm 26 5, Q 27 (.idx (.t 25) (.t 26)),
    Q 28 (.bin .and (.t 27) (.k (.int .u8 15))), Q 29 (.idx (.k (.str ⟨#[48,49,50,51,52,53,54,55,56,57,97,98,99,100,101,102]⟩)) (.t 28)),
    Q 30 (.bslice 1 2 [.int .u8 0] [(0, .t 24), (1, .t 29)]), Q 31 (.app 1 1 (.t 19) (.t 30)), Qm 4 31] [[], [], [], [1,2], [1,2,3], [1,2,3,4], [], [], [6,7], [6,7,8], [6,7,8,9], [1,2,3,4,5,6,7,8,9,10], lr 12, lr 13] [0,4,5] [12,31]))
  (.reg [Qm 17 5, Q 18 (.bin .add (.t 17) (kI 1)), Qm 5 18] [0,4,5] [12,31]))
def impl_Hex.b : C := .seq (.reg [Q 2 (.mv (.k (.str ⟨#[]⟩))), Qb 3 false] [0] [])
  (.seq (.seq (.reg [Qm 6 0, Q 7 (.slen (.t 6)), Q 8 (.bin .gtr (.t 7) (kI 20000))] [0,8] [])
  (.cond (.t 8) (.seq (.reg [Q 2 (.mv (.k (.str ⟨#[]⟩))), Qb 3 false] [2,3] [])
  (.ret)) (.skip)))
  (.seq (.reg [Qm 9 0, Q 10 (.slen (.t 9)), Q 11 (.bin .mul (kI 2) (.t 10)), Q 12 (.mkc 1 1 [.int .u8 0] (kI 0) (.t 11)), Qm 4 12] [0,4] [12,31])
  (.seq (.seq (.reg [Qi 5 0] [0,4,5] [12,31])
  (.block 0 (.loop impl_Hex.l0)))
  (.seq (.reg [Qm 32 4, Q 33 (.b2s (.t 32)), Qm 2 33, Qb 3 true] [2,3] [])
  (.ret)))))
def impl_Hex.m : Fn := { np := 1, body := impl_Hex.b, res := [.tmp 2, .tmp 3] }
def impl_Hex.k (M : Nat → Option Body) : Prop := M 513 = some (.code impl_Hex.m)
def impl_FlagsOf.l0 : C := .seq (.seq (.reg [Qm 5 4, Qm 6 0, Q 7 (.len (.t 6)), Q 8 (.bin .lss (.t 5) (.t 7)), Qm 9 8, Qg 10 (.mv (.t 4)) 9 true, Qg 11 (.bin .lss (.t 10) (kI 3)) 9 true, Q 12 (.pick (.t 9) (.t 11) (kB false))] [0,3,4,12] [])
  (.cond (.t 12) (.skip) (.exit 0)))
  (.seq (.block 1 (.reg [Qm 15 3, Qm 16 0, Qm 17 4, Qa 18 3 16 17, Qf 19 0 18, Ql 20 19, Q 21 (.bin .and (.t 20) (kI 1)), Qm 22 4, Q 23 (.bin .shl (.t 21) (.t 22)), Q 24 (.bin .add (.t 15) (.t 23)),
    Qm 3 24] [0,3,4] []))
  (.reg [Qm 13 4, Q 14 (.bin .add (.t 13) (kI 1)), Qm 4 14] [0,3,4] []))
def impl_FlagsOf.b : C := .seq (.reg [Qi 2 0] [0] [])
  (.seq (.reg [Qi 3 0] [0,3] [])
  (.seq (.seq (.reg [Qi 4 0] [0,3,4] [])
  (.block 0 (.loop impl_FlagsOf.l0)))
  (.seq (.reg [Qm 25 3, Qm 2 25] [2] [])
  (.ret))))
def impl_FlagsOf.m : Fn := { np := 1, body := impl_FlagsOf.b, res := [.tmp 2] }
def impl_FlagsOf.k (M : Nat → Option Body) : Prop := M 514 = some (.code impl_FlagsOf.m)
def impl_SaidOf.l1 : C := .seq (.reg [Q 31 (.bin .lss (.t 30) (.t 29))] [3,11,12,13,28,29,30,31] [])
  (.seq (.cond (.t 31) (.skip) (.exit 2))
  (.seq (.block 3 (.seq (.reg [Qa 32 4 28 30, QL 33 4 32, Q 7 (.alloc [.int .i64 0, .int .i64 0, .nils 3, .str ⟨#[]⟩]), Qs 4 7 33] [3,7,11,12,13,28,29,30] [7])
  (.seq (.reg [Qf 35 3 7, Ql 36 35, Q 37 (.call 513 [.t 36] [] []), Qm 34 37, Qx 38 0 34, Qx 39 1 34, Qm 8 38, Qm 9 39] [3,7,8,11,12,13,28,29,30] [7])
  (.regd [Qm 40 3, Q 41 (.bin .add (.t 40) (.k (.str ⟨#[32]⟩))), Qf 42 1 7, Ql 43 42, Q 44 (.call 512 [.t 43] [] []), Q 45 (.bin .add (.t 41) (.t 44)),
    Q 46 (.bin .add (.t 45) (.k (.str ⟨#[32]⟩))), Qf 47 2 7, Ql 48 47, Q 49 (.call 514 [.t 48] [] []), Q 50 (.call 512 [.t 49] [] []), Q 51 (.bin .add (.t 46) (.t 50)),
    Q 52 (.bin .add (.t 51) (.k (.str ⟨#[32]⟩))), Qm 53 8, Q 54 (.bin .add (.t 52) (.t 53)), Q 55 (.bin .add (.t 54) (.k (.str ⟨#[10]⟩))), Qm 3 55] [[], [0], [], [2], [2,3], lr 5, lr 6, [], [7], [2,3,4,7,8], [2,3,4,7,8,9], lr 11, lr 12, [], lr 14, lr 15, lr 16] [3,11,12,13,28,29,30] []))))
  (.reg [Q 56 (.bin .add (.t 30) (kI 1)), Qm 30 56] [3,11,12,13,28,29,30] [])))
def impl_SaidOf.l0 : C := .seq (.reg [Q 14 (.bin .lss (.t 13) (.t 12))] [3,11,12,13,14] [])
  (.seq (.cond (.t 14) (.skip) (.exit 0))
  (.seq (.block 1 (.seq (.reg [Qa 15 7 11 13, QL 16 7 15, Q 5 (.alloc [.int .i64 0, .str ⟨#[]⟩, .int .i64 0, .int .i64 0, .int .i64 0, .nils 4, .nils 1]), Qs 7 5 16] [3,5,11,12,13] [5])
  (.seq (.regd [Qm 17 3, Qf 18 1 5, Ql 19 18, Q 20 (.bin .add (.t 17) (.t 19)), Q 21 (.bin .add (.t 20) (.k (.str ⟨#[32]⟩))), Qf 22 4 5, Ql 23 22, Q 24 (.call 512 [.t 23] [] []),
    Q 25 (.bin .add (.t 21) (.t 24)), Q 26 (.bin .add (.t 25) (.k (.str ⟨#[10]⟩))), Qm 3 26] [[], [], [1], [0,1,2], lr 4, [], [5], [5,6], lr 8, lr 9, lr 10] [3,5,11,12,13] [5])
  (.seq (.reg [Qf 27 5 5, Ql 28 27, Q 29 (.len (.t 28)), Qi 30 0] [3,11,12,13,28,29,30] [])
  (.block 2 (.loop impl_SaidOf.l1))))))
  (.reg [Q 57 (.bin .add (.t 13) (kI 1)), Qm 13 57] [3,11,12,13] [])))
def impl_SaidOf.b : C := .seq (.reg [Qv 1 0, Q 2 (.mv (.k (.str ⟨#[]⟩)))] [1] [1])
  (.seq (.reg [Q 3 (.mv (.k (.str ⟨#[]⟩)))] [1,3] [1])
  (.seq (.seq (.reg [Qf 10 2 1, Ql 11 10, Q 12 (.len (.t 11)), Qi 13 0] [3,11,12,13] [])
  (.block 0 (.loop impl_SaidOf.l0)))
  (.seq (.reg [Qm 58 3, Qm 2 58] [2] [])
  (.ret))))
def impl_SaidOf.m : Fn := { np := 1, body := impl_SaidOf.b, res := [.tmp 2] }
def impl_SaidOf.k (M : Nat → Option Body) : Prop := M 504 = some (.code impl_SaidOf.m) ∧ impl_told.k M ∧ impl_Hex.k M ∧ impl_FlagsOf.k M
def laws_FnStoresJoin.b : C := .seq (.reg [Qb 2 false] [0] [])
  (.seq (.seq (.reg [Qm 8 0, Q 9 (.call 36 [.t 8] [] [])] [0,9] [])
  (.cond (.t 9) (.seq (.reg [Qb 2 true] [2] [])
  (.ret)) (.skip)))
  (.seq (.reg [Qm 11 0, Q 12 (.call 503 [.t 11] [] []), Qm 10 12, Qx 13 0 10, Qx 14 1 10, Q 3 (.alloc [.int .i64 0, .int .i64 0, .nils 7, .nils 1]),
    Q 4 (.alloc [.int .i64 0, .int .i64 0, .nils 7, .nils 1]), Qs 4 3 13, Qs 4 4 14] [3,4] [3,4])
  (.seq (.reg [QL 15 4 3, QL 16 4 4, Q 17 (.call 447 [.t 15, .t 16] [] []), Q 5 (.alloc [.int .i64 0, .int .i64 0, .nils 7, .nils 1]), Qs 4 5 17] [3,4,5] [3,4,5])
  (.seq (.reg [QL 18 4 4, QL 19 4 3, Q 20 (.call 447 [.t 18, .t 19] [] []), Q 6 (.alloc [.int .i64 0, .int .i64 0, .nils 7, .nils 1]), Qs 4 6 20] [3,4,5,6] [3,4,5,6])
  (.seq (.reg [QL 21 4 3, QL 22 4 4, Q 23 (.call 433 [.t 21, .t 22] [] []), Qm 7 23] [3,4,5,6,7] [3,4,5,6])
  (.seq (.seq (.regd [QL 24 4 5, QL 25 4 6, Q 26 (.call 32 [.t 24, .t 25] [] []), Q 27 (.not (.t 26)), Qm 28 27, Qg 29 (.mv (.t 7)) 28 false, Qg 30 (.load true 4 (.t 4)) 28 false,
    Qg 31 (.load true 4 (.t 3)) 28 false, Qg 32 (.call 433 [.t 30, .t 31] [] []) 28 false, Qg 33 (.beq true (.t 29) (.t 32)) 28 false, Q 34 (.pick (.t 28) (kB true) (.t 33)), Qm 35 34,
    Qg 36 (.mv (.t 7)) 35 false, Qg 37 (.load true 4 (.t 3)) 35 false, Qg 38 (.load true 4 (.t 4)) 35 false, Qg 39 (.call 432 [.t 37, .t 38] [] []) 35 false,
    Qg 40 (.beq true (.t 36) (.t 39)) 35 false, Q 41 (.pick (.t 35) (kB true) (.t 40)), Qm 42 41, Qg 43 (.load true 4 (.t 5)) 42 false, Qg 44 (.load true 4 (.t 3)) 42 false,
    Qg 45 (.load true 4 (.t 4)) 42 false, Qg 46 (.call 446 [.t 44, .t 45] [] []) 42 false, Qg 47 (.call 31 [.t 43, .t 46] [] []) 42 false, Qg 48 (.not (.t 47)) 42 false,
    Q 49 (.pick (.t 42) (kB true) (.t 48))] [[], [], [0,1], [0,1,2], lr 4, lr 5, lr 5, lr 5, lr 5 ++ [6,7], lr 9, lr 10, lr 11, lr 12, lr 12, lr 12, lr 12 ++ [13,14], lr 16, lr 17, lr 18, lr 19, lr 19, lr 19, lr 19 ++ [20,21], lr 23, lr 24, lr 25] [3,4,5,6,7,49] [3,4,5,6])
  (.cond (.t 49) (.seq (.reg [Qb 2 false] [2] [])
  (.ret)) (.skip)))
  (.seq (.regd [Qm 50 7, Q 51 (.not (.t 50)), Qm 52 51, Qg 53 (.load true 4 (.t 5)) 52 false, Qg 54 (.call 150 [.t 53] [] []) 52 false, Qg 55 (.mv (.t 54)) 52 false,
    Qg 56 (.load true 4 (.t 5)) 55 true, Qg 57 (.load true 4 (.t 6)) 55 true, Qg 58 (.call 447 [.t 56, .t 57] [] []) 55 true, Qg 59 (.load true 4 (.t 5)) 55 true,
    Qg 60 (.call 32 [.t 58, .t 59] [] []) 55 true, Qg 61 (.pick (.t 55) (.t 60) (kB false)) 52 false, Qg 62 (.mv (.t 61)) 52 false, Qg 63 (.faddr 0 (.t 5)) 62 true,
    Qg 64 (.load false 1 (.t 63)) 62 true, Qg 65 (.faddr 0 (.t 3)) 62 true, Qg 66 (.load false 1 (.t 65)) 62 true, Qg 67 (.bin .eql (.t 64) (.t 66)) 62 true,
    Qg 68 (.pick (.t 62) (.t 67) (kB false)) 52 false, Qg 69 (.mv (.t 68)) 52 false, Qg 70 (.faddr 0 (.t 6)) 69 true, Qg 71 (.load false 1 (.t 70)) 69 true,
    Qg 72 (.faddr 0 (.t 4)) 69 true, Qg 73 (.load false 1 (.t 72)) 69 true, Qg 74 (.bin .eql (.t 71) (.t 73)) 69 true, Qg 75 (.pick (.t 69) (.t 74) (kB false)) 52 false,
    Qg 76 (.mv (.t 75)) 52 false, Qg 77 (.faddr 1 (.t 5)) 76 true, Qg 78 (.load false 1 (.t 77)) 76 true, Qg 79 (.faddr 1 (.t 6)) 76 true, Qg 80 (.load false 1 (.t 79)) 76 true,
    Qg 81 (.bin .eql (.t 78) (.t 80)) 76 true, Qg 82 (.pick (.t 76) (.t 81) (kB false)) 52 false, Qg 83 (.mv (.t 82)) 52 false, Qg 84 (.load true 4 (.t 5)) 83 true,
    Qg 85 (.call 504 [.t 84] [] []) 83 true, Qg 86 (.load true 4 (.t 6)) 83 true, Qg 87 (.call 504 [.t 86] [] []) 83 true, Qg 88 (.bin .eql (.t 85) (.t 87)) 83 true,
    Qg 89 (.pick (.t 83) (.t 88) (kB false)) 52 false, Q 90 (.pick (.t 52) (kB true) (.t 89)), Qm 2 90] [[], [0], [0,1], [0,1,2], lr 4, lr 5, lr 6, lr 6, lr 8, lr 6, lr 10, lr 11, lr 12, lr 13, lr 14, lr 13, lr 13 ++ [15], lr 17, lr 18, lr 19, lr 20, lr 21, lr 20, lr 20 ++ [22], lr 24, lr 25, lr 26, lr 27, lr 28, lr 27, lr 27 ++ [29], lr 31, lr 32, lr 33, lr 34, lr 35, lr 34, lr 37, lr 38, lr 39, lr 40, lr 41] [2] [])
  (.ret))))))))
def laws_FnStoresJoin.m : Fn := { np := 1, body := laws_FnStoresJoin.b, res := [.tmp 2] }
def laws_FnStoresJoin.k (M : Nat → Option Body) : Prop := M 497 = some (.code laws_FnStoresJoin.m) ∧ spec_Alike.k M ∧ impl_Alike.k M ∧ laws_big.k M ∧ impl_StoreOk.k M ∧ spec_FitsStore.k M ∧ impl_FitsStore.k M ∧ spec_JoinStore.k M ∧ impl_JoinStore.k M ∧ spec_DrawTwoStores.k M ∧ impl_SaidOf.k M
end Mx

namespace Mx
open Go
def gput (l : List Int) (x : Int) : List Int := l.filter (fun y => decide (y < x)) ++ [x] ++ l.filter (fun y => decide (x < y))
def gadd (l : List Int) (x : Int) : List Int := if x ∈ l then l else gput l x
def joinGone (a b : List Int) : List Int := (a ++ b).foldl gadd []
abbrev Asc (l : List Int) : Prop := l.Pairwise (· < ·)
theorem asc_ext : ∀ {a b : List Int}, Asc a → Asc b → (∀ x, x ∈ a ↔ x ∈ b) → a = b
  | [], [], _, _, _ => rfl
  | [], y :: b, _, _, h => absurd ((h y).2 (List.mem_cons_self ..)) (by simp)
  | x :: a, [], _, _, h => absurd ((h x).1 (List.mem_cons_self ..)) (by simp)
  | x :: a, y :: b, ha, hb, h => by
    obtain ⟨ha1, ha2⟩ := List.pairwise_cons.1 ha
    obtain ⟨hb1, hb2⟩ := List.pairwise_cons.1 hb
    have e : x = y := by
      rcases List.mem_cons.1 ((h x).1 (List.mem_cons_self ..)) with q | q
      · exact q
      · rcases List.mem_cons.1 ((h y).2 (List.mem_cons_self ..)) with q' | q'
        · exact q'.symm
        · have := ha1 y q'; have := hb1 x q; omega
    subst e
    congr 1
    refine asc_ext ha2 hb2 fun z => ⟨fun hz => ?_, fun hz => ?_⟩
    · rcases List.mem_cons.1 ((h z).1 (List.mem_cons_of_mem _ hz)) with q | q
      · have := ha1 z hz; omega
      · exact q
    · rcases List.mem_cons.1 ((h z).2 (List.mem_cons_of_mem _ hz)) with q | q
      · have := hb1 z hz; omega
      · exact q
theorem gput_mem {l : List Int} {x z : Int} : z ∈ gput l x ↔ z = x ∨ z ∈ l := by
  simp only [gput, List.mem_append, List.mem_filter, decide_eq_true_eq, List.mem_singleton]
  constructor
  · rintro ((⟨h, _⟩ | h) | ⟨h, _⟩)
    · exact .inr h
    · exact .inl h
    · exact .inr h
  · rintro (h | h)
    · exact .inl (.inr h)
    · by_cases c : z < x
      · exact .inl (.inl ⟨h, c⟩)
      · by_cases c2 : z = x
        · exact .inl (.inr c2)
        · exact .inr ⟨h, by omega⟩
theorem gput_asc {l : List Int} {x : Int} (h : Asc l) : Asc (gput l x) := by
  simp only [gput, Asc, List.pairwise_append, List.pairwise_singleton, List.mem_filter, decide_eq_true_eq, List.mem_singleton, List.mem_append]
  refine ⟨⟨h.filter _, trivial, ?_⟩, h.filter _, ?_⟩
  · rintro a ⟨_, ha⟩ b rfl; exact ha
  · rintro a (⟨_, ha⟩ | rfl) b ⟨_, hb⟩ <;> omega
theorem gadd_mem {l : List Int} {x z : Int} : z ∈ gadd l x ↔ z = x ∨ z ∈ l := by
  unfold gadd; split
  · rename_i h
    constructor
    · exact .inr
    · rintro (rfl | q)
      · exact h
      · exact q
  · exact gput_mem
theorem gadd_asc {l : List Int} {x : Int} (h : Asc l) : Asc (gadd l x) := by
  unfold gadd; split
  · exact h
  · exact gput_asc h
theorem gfold_mem : ∀ (l acc : List Int) (z : Int), z ∈ l.foldl gadd acc ↔ z ∈ l ∨ z ∈ acc
  | [], acc, z => by simp
  | x :: l, acc, z => by
    simp only [List.foldl_cons, gfold_mem l, gadd_mem, List.mem_cons]
    constructor
    · rintro (h | h | h)
      · exact .inl (.inr h)
      · exact .inl (.inl h)
      · exact .inr h
    · rintro ((h | h) | h)
      · exact .inr (.inl h)
      · exact .inl h
      · exact .inr (.inr h)
theorem gfold_asc : ∀ (l acc : List Int), Asc acc → Asc (l.foldl gadd acc)
  | [], acc, h => h
  | x :: l, acc, h => gfold_asc l _ (gadd_asc h)
theorem joinGone_asc (a b : List Int) : Asc (joinGone a b) := gfold_asc _ _ List.Pairwise.nil
theorem joinGone_mem (a b : List Int) (z : Int) : z ∈ joinGone a b ↔ z ∈ a ∨ z ∈ b := by unfold joinGone; rw [gfold_mem]; simp
theorem gadd_len (l : List Int) (x : Int) : (gadd l x).length ≤ l.length + 1 := by
  unfold gadd; split
  · omega
  · simp only [gput, List.length_append, List.length_singleton]
    have : ∀ l : List Int, (l.filter fun y => decide (y < x)).length + (l.filter fun y => decide (x < y)).length ≤ l.length := by
      intro l
      induction l with
      | nil => simp
      | cons y l ih =>
        simp only [List.filter_cons]
        by_cases h1 : y < x
        · have h2 : ¬ x < y := by omega
          simp [h1, h2]; omega
        · by_cases h2 : x < y
          · simp [h1, h2]; omega
          · simp [h1, h2]; omega
    have := this l
    omega
theorem gfold_len : ∀ (l acc : List Int), (l.foldl gadd acc).length ≤ l.length + acc.length
  | [], acc => by simp
  | x :: l, acc => by
    have h1 := gfold_len l (gadd acc x)
    have h2 := gadd_len acc x
    simp only [List.foldl_cons, List.length_cons]; omega
/-- runs of equal numbers become one -/
def dedup : List Int → List Int
  | [] => []
  | x :: l => x :: (go x l)
where go : Int → List Int → List Int
  | _, [] => []
  | p, x :: l => if x = p then go x l else x :: go x l
theorem dedup_go_mem : ∀ (l : List Int) (p z : Int), z ∈ dedup.go p l → z ∈ l
  | [], p, z, h => by simp [dedup.go] at h
  | x :: l, p, z, h => by
    simp only [dedup.go] at h
    split at h
    · exact List.mem_cons_of_mem _ (dedup_go_mem l x z h)
    · rcases List.mem_cons.1 h with rfl | h
      · exact List.mem_cons_self ..
      · exact List.mem_cons_of_mem _ (dedup_go_mem l x z h)
theorem mem_dedup_go : ∀ (l : List Int) (p z : Int), z ∈ l → z = p ∨ z ∈ dedup.go p l
  | [], p, z, h => by simp at h
  | x :: l, p, z, h => by
    simp only [dedup.go]
    split
    · rename_i e
      subst e
      rcases List.mem_cons.1 h with q | q
      · exact .inl q
      · exact mem_dedup_go l x z q
    · rcases List.mem_cons.1 h with q | q
      · exact .inr (by rw [q]; exact List.mem_cons_self ..)
      · rcases mem_dedup_go l x z q with q | q
        · exact .inr (by rw [q]; exact List.mem_cons_self ..)
        · exact .inr (List.mem_cons_of_mem _ q)
theorem dedup_go_asc : ∀ (l : List Int) (p : Int), l.Pairwise (· ≤ ·) → (∀ z ∈ l, p ≤ z) → Asc (dedup.go p l) ∧ ∀ z ∈ dedup.go p l, p < z
  | [], p, _, _ => by simp [dedup.go]
  | x :: l, p, h, hp => by
    obtain ⟨h1, h2⟩ := List.pairwise_cons.1 h
    have hx := hp x (List.mem_cons_self ..)
    obtain ⟨k1, k2⟩ := dedup_go_asc l x h2 h1
    simp only [dedup.go]
    split
    · rename_i e; exact ⟨k1, fun z hz => by have := k2 z hz; omega⟩
    · rename_i e
      refine ⟨List.pairwise_cons.2 ⟨k2, k1⟩, fun z hz => ?_⟩
      rcases List.mem_cons.1 hz with rfl | hz
      · omega
      · have := k2 z hz; omega
theorem dedup_asc {l : List Int} (h : l.Pairwise (· ≤ ·)) : Asc (dedup l) := by
  cases l with
  | nil => exact List.Pairwise.nil
  | cons x l =>
    obtain ⟨h1, h2⟩ := List.pairwise_cons.1 h
    obtain ⟨k1, k2⟩ := dedup_go_asc l x h2 h1
    exact List.pairwise_cons.2 ⟨k2, k1⟩
theorem dedup_mem {l : List Int} {z : Int} : z ∈ dedup l ↔ z ∈ l := by
  cases l with
  | nil => simp [dedup]
  | cons x l =>
    simp only [dedup, List.mem_cons]
    constructor
    · rintro (h | h)
      · exact .inl h
      · exact .inr (dedup_go_mem l x z h)
    · rintro (h | h)
      · exact .inl h
      · exact mem_dedup_go l x z h
/-- the kit's word for it -/
theorem compact_dedup (l : List Int) : Lib.compact l = dedup l := by
  have key : ∀ (d : Array Int) (m : Nat) (l : List Int) (p : Int), 0 < m → m + l.length = d.size → d.toList.drop m = l → d[m - 1]! = p → ((List.range' m l.length).filter (Lib.keeps d)).map (d[·]!) = dedup.go p l := by
    intro d m l
    induction l generalizing m with
    | nil => intro p _ _ _ _; rfl
    | cons x l ih =>
      intro p hm hl hd hp
      have hlt : m < d.size := by simp at hl; omega
      have hx : d[m]! = x := by
        rw [getElem!_pos d m hlt]
        have := congrArg (·[0]?) hd
        simpa [hlt] using this
      have ih' := ih (m + 1) x (by omega) (by simp at hl; omega) (by rw [← List.tail_drop, hd]; rfl) (by simpa using hx)
      simp only [List.length_cons, List.range'_succ, List.filter_cons, dedup.go]
      by_cases e : x = p
      · have hk : Lib.keeps d m = false := Lib.keeps_neg hm (by rw [hx, hp, e])
        rw [if_pos e, hk]; simpa using ih'
      · have hk : Lib.keeps d m = true := Lib.keeps_pos (by rw [hx, hp]; exact e)
        rw [if_neg e, hk]; simp only [if_true, List.map_cons, hx, ih']
  cases l with
  | nil => rfl
  | cons x l =>
    have hk : Lib.keeps (x :: l).toArray 0 = true := Lib.keeps_lt_one _ 0 (by omega)
    unfold Lib.compact Lib.compactUpTo
    rw [List.range_eq_range', List.length_cons, List.range'_succ, List.filter_cons, hk]
    simp only [if_true, List.map_cons, dedup]
    congr 1
    exact key (x :: l).toArray 1 l x (by omega) (by simp; omega) (by simp) (by simp)
theorem compact_len (l : List Int) : (Lib.compact l).length ≤ l.length := by
  unfold Lib.compact Lib.compactUpTo
  rw [List.length_map]
  refine Nat.le_trans (List.length_filter_le _ _) ?_
  simp
theorem joinGone_sort (a b : List Int) : Lib.compact (sortI (a ++ b)) = joinGone a b := by
  rw [compact_dedup]
  have hs : (sortI (a ++ b)).Pairwise (· ≤ ·) := by
    have := List.pairwise_mergeSort (le := fun x y : Int => decide (x ≤ y)) (fun a b c h1 h2 => by simp only [decide_eq_true_eq] at *; omega) (fun a b => by simp only [Bool.or_eq_true, decide_eq_true_eq]; omega) (a ++ b)
    exact this.imp fun h => by simpa using h
  refine asc_ext (dedup_asc hs) (joinGone_asc a b) fun z => ?_
  rw [dedup_mem, joinGone_mem]
  simp [sortI]
end Mx

namespace Mx
open Go
variable {M : Nat → Option Body}
theorem impl_copyInts.says (h : impl_copyInts.k M) (l : List Int) (hx : l.length ≤ 1048576) : run M 134 [.c (ints l)] [] = some (.c (.sl true 1 (irow l)), []) := by
  have h1 : l.length ≤ 4294967296 := by omega
  refine run_code (b := impl_copyInts.m) h ⟨0, ?_⟩
  simp [exB, impl_copyInts.m, impl_copyInts.b, List.range_succ, List.take_of_length_le, h1]
end Mx

namespace Mx
open Go
theorem andI_eq (k : IntKind) (x y : Int) : andI k x y = k.wrap (((x % ((2 ^ k.bits : Nat) : Int)).toNat &&& (y % ((2 ^ k.bits : Nat) : Int)).toNat : Nat) : Int) := by
  unfold andI; rw [BitVec.toNat_and, BitVec.toNat_ofInt, BitVec.toNat_ofInt]
theorem brow_nil : brow [] = [] := rfl
attribute [simp] brow_nil
end Mx

namespace Mx
open Go
variable {M : Nat → Option Body}
theorem impl_within.says (h : impl_within.k M) (n a b : Int) : run M 101 [.c (I n), .c (I a), .c (I b)] [] = some (.c (.bool (decide (a ≤ n) && decide (n ≤ b))), []) := by
  refine run_code (b := impl_within.m) h ⟨0, ?_⟩
  by_cases h : a ≤ n
  · have h' : n ≥ a := h
    simp [exB, impl_within.m, impl_within.b, List.range_succ, h]
  · have h' : ¬ n ≥ a := h
    simp [exB, impl_within.m, impl_within.b, List.range_succ, h]
theorem spec_l01In.says (h : spec_l01In.k M) (n a b : Int) : run M 98 [.c (I n), .c (I a), .c (I b)] [] = some (.c (.bool (decide (a ≤ n) && decide (n ≤ b))), []) := by
  refine run_code (b := spec_l01In.m) h ⟨0, ?_⟩
  by_cases h : a ≤ n
  · have h' : n ≥ a := h
    simp [exB, spec_l01In.m, spec_l01In.b, List.range_succ, h]
  · have h' : ¬ n ≥ a := h
    simp [exB, spec_l01In.m, spec_l01In.b, List.range_succ, h]
end Mx

namespace Mx
open Go
variable {M : Nat → Option Body}
structure Reg where
  val : Int
  time : Int
  who : Int
structure Mail where
  gid : Int
  uid : Int
  flags : List Reg
  text : List UInt8
structure Box where
  gid : Int
  name : List UInt8
  time : Int
  who : Int
  next : Int
  mails : List Mail
  gone : List Int
abbrev encReg (r : Reg) : List T := [I r.val, I r.time, I r.who]
abbrev regs (l : List Reg) : T := .sl false 3 (l.map encReg)
abbrev encMail (m : Mail) : List T := [I m.gid, I m.uid, regs m.flags, S m.text]
abbrev mails (l : List Mail) : T := .sl false 4 (l.map encMail)
abbrev encBox (b : Box) : List T := [I b.gid, S b.name, I b.time, I b.who, I b.next, mails b.mails, ints b.gone]
/-- as their own -/
abbrev encMailO (m : Mail) : List T := [I m.gid, I m.uid, .sl true 3 (m.flags.map encReg), S m.text]
abbrev encBoxO (b : Box) : List T := [I b.gid, S b.name, I b.time, I b.who, I b.next, .sl true 4 (b.mails.map encMail), .sl true 1 (irow b.gone)]
theorem has_int {k : IntKind} {u : T} (h : Has (.int k) u) : ∃ n, u = .int k n := by cases h; exact ⟨_, rfl⟩
end Mx

namespace Mx
open Go
variable {M : Nat → Option Body}
/-- the first mail of this number, from a place on -/
def atO (l : List Mail) (g : Int) : Nat → Nat → Option Nat
  | 0, _ => none
  | d + 1, i => if h : i < l.length then (if l[i].gid = g then some i else atO l g d (i + 1)) else none
def mailO (l : List Mail) (g : Int) : Option Nat := atO l g l.length 0
def intO : Option Nat → Int
  | some i => i
  | none => -1
theorem atO_lt (l : List Mail) (g : Int) : ∀ d i k, atO l g d i = some k → k < l.length
  | 0, i, k, h => by simp [atO] at h
  | d + 1, i, k, h => by
    rw [atO] at h
    by_cases hl : i < l.length
    · rw [dif_pos hl] at h
      split at h
      · cases h; exact hl
      · exact atO_lt l g d (i + 1) k h
    · rw [dif_neg hl] at h; cases h
def atFin (q : Option Nat) (m : St) : Out × St := match q with
  | some i => (.ret, { t := [(4, .c (I i))], o := [], n := m.n })
  | none => (.exit 0, m)
theorem atFin_ne (q : Option Nat) (m : St) : (atFin q m).1 ≠ .normal := by cases q <;> simp [atFin]
/-- the loop of either -/
theorem at_loop {f : St → Option (Out × St)} {β : Type} (l : List Mail) (g : Int) (S : Nat → β → St)
    (h1 : ∀ i (h : i < l.length) x, l[i].gid = g → ∃ m, f (S i x) = some (atFin (some i) m)) (h2 : ∀ i (h : i < l.length) x, ¬ l[i].gid = g → ∃ y, f (S i x) = some (.normal, S (i + 1) y))
    (h3 : ∀ x, ∃ m, f (S l.length x) = some (atFin none m)) : ∃ g' : β → St, ∀ x, loopN f (l.length + 1) (S 0 x) = some (atFin (mailO l g) (g' x)) := by
  refine loop_all (f := f) S (fun i => i ≤ l.length) (fun i => l.length - i) (fun i => atO l g (l.length - i) i) atFin ?_ (l.length + 1) 0 (Nat.zero_le _) (by omega)
  intro i x hi
  by_cases hlt : i < l.length
  · have hd : l.length - i = (l.length - (i + 1)) + 1 := by omega
    have hg : atO l g (l.length - i) i = if l[i].gid = g then some i else atO l g (l.length - (i + 1)) (i + 1) := by rw [hd, atO, dif_pos hlt]
    simp only [hg]
    by_cases c : l[i].gid = g
    · right
      obtain ⟨m, hm⟩ := h1 i hlt x c
      rw [if_pos c]
      exact ⟨m, hm, atFin_ne _ _⟩
    · left
      obtain ⟨y, hy⟩ := h2 i hlt x c
      rw [if_neg c]
      exact ⟨i + 1, y, hy, hlt, by omega, rfl⟩
  · have : i = l.length := by omega
    subst this
    right
    obtain ⟨m, hm⟩ := h3 x
    simp only [Nat.sub_self, atO]
    exact ⟨m, hm, atFin_ne _ _⟩
def spAtS (b : Box) (g : Int) (i : Nat) (x : Nat × Nat) : St := { t := [(1, .c (I g)), (2, .c (.ptr 2 x.1 0 0)), (5, .c (I i))], o := [(2, ⟨x.1, 7, true, true, [encBox b]⟩)], n := x.2 }
theorem spec_MailAt.says (h : spec_MailAt.k M) (b : Box) (g : Int) (hb : b.mails.length ≤ 1048576) : run M 91 [.a (encBox b), .c (I g)] [] = some (.c (I (intO (mailO b.mails g))), []) := by
  refine run_code (b := spec_MailAt.m) h ⟨b.mails.length + 1, ?_⟩
  obtain ⟨g', hr⟩ := at_loop (f := exC (run M) (b.mails.length + 1) spec_MailAt.l0) b.mails g (spAtS b g)
    (fun i hi x c => by
      obtain ⟨v, x⟩ := x
      simp [spAtS, spec_MailAt.l0, hi, c, encMail, atFin]
      exact ⟨⟨[], [], _⟩, rfl⟩)
    (fun i hi x c => by
      obtain ⟨v, x⟩ := x
      have e5 := wrap1 (i := i) (by omega)
      simp only [Prod.exists]
      simp [spAtS, spec_MailAt.l0, hi, c, encMail, e5])
    (fun x => by
      obtain ⟨v, x⟩ := x
      simp [spAtS, spec_MailAt.l0, atFin])
  cases hm : mailO b.mails g with
  | none =>
    simp [spAtS, hm, atFin] at hr
    simp [exB, spec_MailAt.m, spec_MailAt.b, List.range_succ, hr, intO]
  | some k =>
    simp [spAtS, hm, atFin] at hr
    simp [exB, spec_MailAt.m, spec_MailAt.b, List.range_succ, hr, intO]
theorem impl_MailAt_1.says (h : impl_MailAt_1.k M) (m : Mail) (g : Int) : run M 160 [.a (encMail m), .c (.vp [I g] 0)] [] = some (.c (.bool (decide (m.gid = g))), []) := by
  refine run_code (b := impl_MailAt_1.m) h ⟨0, ?_⟩
  simp [exB, impl_MailAt_1.m, impl_MailAt_1.b, List.range_succ]
def ixS (l : List Mail) (g : Int) (i : Nat) (x : Nat) : St := { t := [(0, .c (mails l)), (1, .c (.fn 160 [.vp [I g] 0])), (7, .c (I l.length)), (8, .c (I i))], o := [], n := x }
theorem slices_IndexFunc_impl_Mail_impl_Mail.says (h : slices_IndexFunc_impl_Mail_impl_Mail.k M) (h2 : impl_MailAt_1.k M) (l : List Mail) (g : Int) (hl : l.length ≤ 1048576) :
    run M 161 [.c (mails l), .c (.fn 160 [.vp [I g] 0])] [] = some (.c (I (intO (mailO l g))), []) := by
  refine run_code (b := slices_IndexFunc_impl_Mail_impl_Mail.m) h ⟨l.length + 1, ?_⟩
  obtain ⟨g', hr⟩ := at_loop (f := exC (run M) (l.length + 1) slices_IndexFunc_impl_Mail_impl_Mail.l0) l g (ixS l g)
    (fun i hi x c => by
      have hm := impl_MailAt_1.says h2 l[i] g
      rw [decide_eq_true c] at hm
      simp [ixS, slices_IndexFunc_impl_Mail_impl_Mail.l0, hi, hm, encMail, atFin]
      exact ⟨⟨[], [], _⟩, rfl⟩)
    (fun i hi x c => by
      have hm := impl_MailAt_1.says h2 l[i] g
      rw [decide_eq_false c] at hm
      have e5 := wrap1 (i := i) (by omega)
      simp [ixS, slices_IndexFunc_impl_Mail_impl_Mail.l0, hi, hm, encMail, e5])
    (fun x => by simp [ixS, slices_IndexFunc_impl_Mail_impl_Mail.l0, atFin])
  cases hm : mailO l g with
  | none =>
    simp [ixS, hm, atFin] at hr
    simp [exB, slices_IndexFunc_impl_Mail_impl_Mail.m, slices_IndexFunc_impl_Mail_impl_Mail.b, List.range_succ, hr, intO]
  | some k =>
    simp [ixS, hm, atFin] at hr
    simp [exB, slices_IndexFunc_impl_Mail_impl_Mail.m, slices_IndexFunc_impl_Mail_impl_Mail.b, List.range_succ, hr, intO]
theorem impl_MailAt.says (h : impl_MailAt.k M) (b : Box) (g : Int) (hb : b.mails.length ≤ 1048576) : run M 72 [.a (encBox b), .c (I g)] [] = some (.c (I (intO (mailO b.mails g))), []) := by
  have h1 := slices_IndexFunc_impl_Mail_impl_Mail.says h.2.2 h.2.1 b.mails g hb
  refine run_code (b := impl_MailAt.m) h.1 ⟨0, ?_⟩
  simp [exB, impl_MailAt.m, impl_MailAt.b, List.range_succ, h1]
def holds (b : Box) (g : Int) : Bool := decide (0 ≤ intO (mailO b.mails g))
theorem impl_Holds.says (h : impl_Holds.k M) (b : Box) (g : Int) (hb : b.mails.length ≤ 1048576) : run M 20 [.a (encBox b), .c (I g)] [] = some (.c (.bool (holds b g)), []) := by
  have h1 := impl_MailAt.says h.2 b g hb
  refine run_code (b := impl_Holds.m) h.1 ⟨0, ?_⟩
  simp [exB, impl_Holds.m, impl_Holds.b, List.range_succ, h1, holds, List.take_of_length_le]
end Mx

namespace Mx
open Go
/-- the first place from i on, of the d places there, of which p says yes -/
def firstF (p : Nat → Bool) : Nat → Nat → Option Nat
  | 0, _ => none
  | d + 1, i => if p i = true then some i else firstF p d (i + 1)
def firstN (p : Nat → Bool) (n : Nat) : Option Nat := firstF p n 0
theorem firstF_none (p : Nat → Bool) : ∀ d i, firstF p d i = none → ∀ j, i ≤ j → j < i + d → p j = false
  | 0, i, _, j, h1, h2 => by omega
  | d + 1, i, h, j, h1, h2 => by
    rw [firstF] at h
    split at h
    · cases h
    · by_cases e : j = i
      · subst e; simpa using ‹¬p j = true›
      · exact firstF_none p d (i + 1) h j (by omega) (by omega)
theorem firstF_some (p : Nat → Bool) : ∀ d i k, firstF p d i = some k → i ≤ k ∧ k < i + d ∧ p k = true ∧ ∀ j, i ≤ j → j < k → p j = false
  | d + 1, i, k, h => by
    rw [firstF] at h
    split at h
    · cases h
      exact ⟨by omega, by omega, ‹_›, fun j h1 h2 => by omega⟩
    · obtain ⟨h1, h2, h3, h4⟩ := firstF_some p d (i + 1) k h
      refine ⟨by omega, by omega, h3, fun j h5 h6 => ?_⟩
      by_cases e : j = i
      · subst e; simpa using ‹¬p j = true›
      · exact h4 j (by omega) h6
theorem firstN_none {p : Nat → Bool} {n : Nat} (h : firstN p n = none) : ∀ j, j < n → p j = false := fun j hj => firstF_none p n 0 h j (by omega) (by omega)
theorem firstN_some {p : Nat → Bool} {n k : Nat} (h : firstN p n = some k) : k < n ∧ p k = true ∧ ∀ j, j < k → p j = false := by
  obtain ⟨_, h2, h3, h4⟩ := firstF_some p n 0 k h
  exact ⟨by omega, h3, fun j hj => h4 j (by omega) hj⟩
theorem firstN_isNone {p : Nat → Bool} {n : Nat} : firstN p n = none ↔ ∀ j, j < n → p j = false := by
  refine ⟨firstN_none, fun h => ?_⟩
  cases q : firstN p n with
  | none => rfl
  | some k =>
    obtain ⟨h1, h2, _⟩ := firstN_some q
    rw [h k h1] at h2; cases h2
theorem first_loop {γ β : Type} (n : Nat) (p : Nat → Bool) {f : St → Option (Out × St)} (S : Nat → β → St) (fin : Option Nat → γ → Out × St) (hfin : ∀ q m, (fin q m).1 ≠ .normal)
    (h1 : ∀ i, i < n → ∀ x, p i = false → ∃ y, f (S i x) = some (.normal, S (i + 1) y)) (h2 : ∀ i, i < n → ∀ x, p i = true → ∃ m, f (S i x) = some (fin (some i) m))
    (h3 : ∀ x, ∃ m, f (S n x) = some (fin none m)) : ∃ g : β → γ, ∀ x, loopN f (n + 1) (S 0 x) = some (fin (firstN p n) (g x)) := by
  refine loop_all (f := f) S (fun i => i ≤ n) (fun i => n - i) (fun i => firstF p (n - i) i) fin ?_ (n + 1) 0 (Nat.zero_le _) (by omega)
  intro i x hi
  by_cases hlt : i < n
  · have hd : n - i = (n - (i + 1)) + 1 := by omega
    have hg : firstF p (n - i) i = if p i = true then some i else firstF p (n - (i + 1)) (i + 1) := by rw [hd, firstF]
    simp only [hg]
    by_cases c : p i = true
    · right
      obtain ⟨m, hm⟩ := h2 i hlt x c
      rw [if_pos c]
      exact ⟨m, hm, hfin _ _⟩
    · left
      obtain ⟨y, hy⟩ := h1 i hlt x (by simpa using c)
      rw [if_neg c]
      exact ⟨i + 1, y, hy, hlt, by omega, rfl⟩
  · have : i = n := by omega
    subst this
    right
    obtain ⟨m, hm⟩ := h3 x
    simp only [Nat.sub_self, firstF]
    exact ⟨m, hm, hfin _ _⟩
theorem loopN_le {f : St → Option (Out × St)} {n m : Nat} {s : St} {r : Out × St} (h : loopN f n s = some r) (hm : n ≤ m) : loopN f m s = some r := loopN_mono (fun _ _ h => h) hm h
/-- a loop that answers w at the first place found, and goes on behind itself if there is none -/
def fin1 {β : Type} (r : Nat) (w : T) (e : Nat) (E : β → St) (q : Option Nat) (m : β × Nat) : Out × St := match q with
  | none => (.exit e, E m.1)
  | some _ => (.ret, { t := [(r, .c w)], o := [], n := m.2 })
theorem early_loop {β : Type} (n : Nat) (p : Nat → Bool) {f : St → Option (Out × St)} (S : Nat → β → St) (r : Nat) (w : T) (e : Nat) (E : β → St)
    (h1 : ∀ i, i < n → ∀ x, p i = false → ∃ y, f (S i x) = some (.normal, S (i + 1) y)) (h2 : ∀ i, i < n → ∀ x, p i = true → ∃ k, f (S i x) = some (.ret, { t := [(r, .c w)], o := [], n := k }))
    (h3 : ∀ x, ∃ y, f (S n x) = some (.exit e, E y)) : ∃ g : β → β × Nat, ∀ x, loopN f (n + 1) (S 0 x) = some (fin1 r w e E (firstN p n) (g x)) :=
  first_loop n p S (fin1 r w e E) (fun q m => by cases q <;> simp [fin1]) h1 (fun i hi x c => by
    obtain ⟨k, hk⟩ := h2 i hi x c
    exact ⟨(x, k), hk⟩) (fun x => by
    obtain ⟨y, hy⟩ := h3 x
    exact ⟨(y, 0), hy⟩)
/-- a loop that goes through a whole list with what it has so far -/
theorem fold_loop {α σ β γ : Type} (l : List α) (step : σ → α → σ) (Inv : Nat → σ → Prop) {f : St → Option (Out × St)} (S : Nat → σ → β → St) (e : Nat) (E : σ → γ → St)
    (hI : ∀ i (h : i < l.length) s, Inv i s → Inv (i + 1) (step s l[i]))
    (h1 : ∀ i (h : i < l.length) s x, Inv i s → ∃ y, f (S i s x) = some (.normal, S (i + 1) (step s l[i]) y))
    (h3 : ∀ s x, Inv l.length s → ∃ y, f (S l.length s x) = some (.exit e, E s y)) (s : σ) (h0 : Inv 0 s) :
    ∃ g : β → γ, ∀ x, loopN f (l.length + 1) (S 0 s x) = some (.exit e, E (l.foldl step s) (g x)) := by
  refine loop_all (f := f) (fun p : Nat × σ => S p.1 p.2) (fun p => p.1 ≤ l.length ∧ Inv p.1 p.2) (fun p => l.length - p.1) (fun p => (l.drop p.1).foldl step p.2) (fun q m => (.exit e, E q m)) ?_ (l.length + 1) (0, s) ⟨Nat.zero_le _, h0⟩ (by simp)
  rintro ⟨i, s⟩ x ⟨hi, hs⟩
  simp only at hi hs
  by_cases hlt : i < l.length
  · left
    obtain ⟨y, hy⟩ := h1 i hlt s x hs
    refine ⟨(i + 1, step s l[i]), y, hy, ⟨hlt, hI i hlt s hs⟩, by simp only; omega, ?_⟩
    simp only
    rw [List.drop_eq_getElem_cons hlt, List.foldl_cons]
  · have : i = l.length := by omega
    subst this
    right
    obtain ⟨y, hy⟩ := h3 s x hs
    exact ⟨y, by simp [hy], by simp⟩
theorem foldl_inv {α σ : Type} (l : List α) (step : σ → α → σ) (Inv : Nat → σ → Prop) (hI : ∀ i (h : i < l.length) s, Inv i s → Inv (i + 1) (step s l[i])) : ∀ s, Inv 0 s → Inv l.length (l.foldl step s) := by
  have key : ∀ d i s, i + d = l.length → Inv i s → Inv l.length ((l.drop i).foldl step s) := by
    intro d
    induction d with
    | zero => intro i s hi h; have : i = l.length := by omega
              subst this; simpa using h
    | succ d ih =>
      intro i s hi h
      have hlt : i < l.length := by omega
      rw [List.drop_eq_getElem_cons hlt, List.foldl_cons]
      exact ih (i + 1) _ (by omega) (hI i hlt s h)
  intro s h
  simpa using key l.length 0 s (by omega) h
/-- texts one behind the other -/
def texts {α : Type} (t : α → List UInt8) (l : List α) : List UInt8 := l.flatMap t
end Mx

namespace Mx
open Go
variable {M : Nat → Option Body}
def inR (a n b : Int) : Bool := decide (a ≤ n) && decide (n ≤ b)
theorem impl_within.inR (h : impl_within.k M) (n a b : Int) : run M 101 [.c (I n), .c (I a), .c (I b)] [] = some (.c (.bool (inR a n b)), []) := impl_within.says h n a b
theorem spec_l01In.inR (h : spec_l01In.k M) (n a b : Int) : run M 98 [.c (I n), .c (I a), .c (I b)] [] = some (.c (.bool (inR a n b)), []) := spec_l01In.says h n a b
def stampOk (t w : Int) : Bool := inR 0 t 100000 && inR 0 w 2
theorem impl_StampOk.says (h : impl_StampOk.k M) (t w : Int) : run M 164 [.a [I t, I w]] [] = some (.c (.bool (stampOk t w)), []) := by
  have h1 := impl_within.inR h.2 t 0 100000
  have h2 := impl_within.inR h.2 w 0 2
  refine run_code (b := impl_StampOk.m) h.1 ⟨0, ?_⟩
  cases c : inR 0 t 100000 <;> simp (maxSteps := 1000000) (disch := (first | omega | (simp; done) | (simp; omega))) [exB, impl_StampOk.m, impl_StampOk.b, List.range_succ, bs_get, List.take_of_length_le, setAt, str_add, h1, h2, c, stampOk]
theorem spec_StampOk.says (h : spec_StampOk.k M) (t w : Int) : run M 183 [.a [I t, I w]] [] = some (.c (.bool (stampOk t w)), []) := by
  have h1 := spec_l01In.inR h.2 t 0 100000
  have h2 := spec_l01In.inR h.2 w 0 2
  refine run_code (b := spec_StampOk.m) h.1 ⟨0, ?_⟩
  cases c : inR 0 t 100000 <;> simp (maxSteps := 1000000) (disch := (first | omega | (simp; done) | (simp; omega))) [exB, spec_StampOk.m, spec_StampOk.b, List.range_succ, bs_get, List.take_of_length_le, setAt, str_add, h1, h2, c, stampOk]
def regOk (r : Reg) : Bool := stampOk r.time r.who && inR 0 r.val 1000000000
theorem impl_RegOk.says (h : impl_RegOk.k M) (r : Reg) : run M 272 [.a (encReg r)] [] = some (.c (.bool (regOk r)), []) := by
  have h1 := impl_StampOk.says h.2.2 r.time r.who
  have h2 := impl_within.inR h.2.1 r.val 0 1000000000
  refine run_code (b := impl_RegOk.m) h.1 ⟨0, ?_⟩
  cases c : stampOk r.time r.who <;> simp (maxSteps := 1000000) (disch := (first | omega | (simp; done) | (simp; omega))) [exB, impl_RegOk.m, impl_RegOk.b, List.range_succ, bs_get, List.take_of_length_le, setAt, str_add, h1, h2, c, regOk]
theorem spec_RegOk.says (h : spec_RegOk.k M) (r : Reg) : run M 276 [.a (encReg r)] [] = some (.c (.bool (regOk r)), []) := by
  have h1 := spec_StampOk.says h.2.2 r.time r.who
  have h2 := spec_l01In.inR h.2.1 r.val 0 1000000000
  refine run_code (b := spec_RegOk.m) h.1 ⟨0, ?_⟩
  cases c : stampOk r.time r.who <;> simp (maxSteps := 1000000) (disch := (first | omega | (simp; done) | (simp; omega))) [exB, spec_RegOk.m, spec_RegOk.b, List.range_succ, bs_get, List.take_of_length_le, setAt, str_add, h1, h2, c, regOk]
def badFlag (l : List Reg) (i : Nat) : Bool := match l[i]? with
  | some r => !regOk r || decide (1 < r.val)
  | none => false
def flagsOk (l : List Reg) : Bool := (firstN (badFlag l) l.length).isNone && decide (l.length = 3)
theorem badFlag_at {l : List Reg} {i : Nat} (h : i < l.length) : badFlag l i = (!regOk l[i] || decide (1 < l[i].val)) := by simp [badFlag, h]
def ifS (l : List Reg) (i : Nat) (x : Nat) : St := { t := [(0, .c (regs l)), (5, .c (regs l)), (6, .c (I l.length)), (7, .c (I i))], o := [], n := x }
def ifE (l : List Reg) (x : Nat) : St := { t := [(0, .c (regs l)), (5, .c (regs l)), (6, .c (I l.length)), (7, .c (I l.length)), (8, .c (.bool false))], o := [], n := x }
theorem impl_FlagsOk.says (h : impl_FlagsOk.k M) (l : List Reg) (hl : l.length ≤ 1048576) : run M 235 [.c (regs l)] [] = some (.c (.bool (flagsOk l)), []) := by
  refine run_code (b := impl_FlagsOk.m) h.1 ⟨l.length + 1, ?_⟩
  obtain ⟨g, hr⟩ := early_loop (f := exC (run M) (l.length + 1) impl_FlagsOk.l0) l.length (badFlag l) (ifS l) 2 (.bool false) 0 (ifE l)
    (fun i hi x c => by
      have e5 := wrap1 (i := i) (by omega)
      have hm := impl_RegOk.says h.2 l[i]
      rw [badFlag_at hi] at c
      simp at c
      simp only [encReg, c.1] at hm
      have c2 : ¬ (1 : Int) < l[i].val := by omega
      simp (maxSteps := 1000000) (disch := (first | omega | (simp; done) | (simp; omega))) [impl_FlagsOk.l0, List.range_succ, bs_get, List.take_of_length_le, setAt, str_add, ifS, hi, hm, encReg, c, c2, e5])
    (fun i hi x c => by
      have hm := impl_RegOk.says h.2 l[i]
      rw [badFlag_at hi] at c
      cases c1 : regOk l[i]
      · simp only [encReg, c1] at hm
        simp (maxSteps := 1000000) (disch := (first | omega | (simp; done) | (simp; omega))) [impl_FlagsOk.l0, List.range_succ, bs_get, List.take_of_length_le, setAt, str_add, ifS, hi, hm, encReg, c1]
      · simp [c1] at c
        simp only [encReg, c1] at hm
        simp (maxSteps := 1000000) (disch := (first | omega | (simp; done) | (simp; omega))) [impl_FlagsOk.l0, List.range_succ, bs_get, List.take_of_length_le, setAt, str_add, ifS, hi, hm, encReg, c1, c])
    (fun x => by simp (maxSteps := 1000000) (disch := (first | omega | (simp; done) | (simp; omega))) [impl_FlagsOk.l0, List.range_succ, bs_get, List.take_of_length_le, setAt, str_add, ifS, ifE])
  cases q : firstN (badFlag l) l.length with
  | none =>
    simp [ifS, ifE, q, fin1] at hr
    simp (maxSteps := 1000000) (disch := (first | omega | (simp; done) | (simp; omega))) [exB, impl_FlagsOk.m, impl_FlagsOk.b, List.range_succ, bs_get, List.take_of_length_le, setAt, str_add, hr, flagsOk, q]
    omega
  | some k =>
    simp [ifS, q, fin1] at hr
    simp (maxSteps := 1000000) (disch := (first | omega | (simp; done) | (simp; omega))) [exB, impl_FlagsOk.m, impl_FlagsOk.b, List.range_succ, bs_get, List.take_of_length_le, setAt, str_add, hr, flagsOk, q]
def sfS (l : List Reg) (i : Nat) (x : Nat) : St := { t := [(0, .c (regs l)), (3, .c (I i))], o := [], n := x }
def sfE (l : List Reg) (x : Nat) : St := { t := [(0, .c (regs l)), (3, .c (I l.length)), (7, .c (.bool false))], o := [], n := x }
theorem spec_FlagsOk.says (h : spec_FlagsOk.k M) (l : List Reg) (hl : l.length ≤ 1048576) : run M 242 [.c (regs l)] [] = some (.c (.bool (flagsOk l)), []) := by
  refine run_code (b := spec_FlagsOk.m) h.1 ⟨l.length + 1, ?_⟩
  obtain ⟨g, hr⟩ := early_loop (f := exC (run M) (l.length + 1) spec_FlagsOk.l0) l.length (badFlag l) (sfS l) 2 (.bool false) 0 (sfE l)
    (fun i hi x c => by
      have e5 := wrap1 (i := i) (by omega)
      have hm := spec_RegOk.says h.2 l[i]
      rw [badFlag_at hi] at c
      simp at c
      simp only [encReg, c.1] at hm
      have c2 : ¬ (1 : Int) < l[i].val := by omega
      simp (maxSteps := 1000000) (disch := (first | omega | (simp; done) | (simp; omega))) [spec_FlagsOk.l0, List.range_succ, bs_get, List.take_of_length_le, setAt, str_add, sfS, hi, hm, encReg, c, c2, e5])
    (fun i hi x c => by
      have hm := spec_RegOk.says h.2 l[i]
      rw [badFlag_at hi] at c
      cases c1 : regOk l[i]
      · simp only [encReg, c1] at hm
        simp (maxSteps := 1000000) (disch := (first | omega | (simp; done) | (simp; omega))) [spec_FlagsOk.l0, List.range_succ, bs_get, List.take_of_length_le, setAt, str_add, sfS, hi, hm, encReg, c1]
      · simp [c1] at c
        simp only [encReg, c1] at hm
        simp (maxSteps := 1000000) (disch := (first | omega | (simp; done) | (simp; omega))) [spec_FlagsOk.l0, List.range_succ, bs_get, List.take_of_length_le, setAt, str_add, sfS, hi, hm, encReg, c1, c])
    (fun x => by simp (maxSteps := 1000000) (disch := (first | omega | (simp; done) | (simp; omega))) [spec_FlagsOk.l0, List.range_succ, bs_get, List.take_of_length_le, setAt, str_add, sfS, sfE])
  cases q : firstN (badFlag l) l.length with
  | none =>
    simp [sfS, sfE, q, fin1] at hr
    simp (maxSteps := 1000000) (disch := (first | omega | (simp; done) | (simp; omega))) [exB, spec_FlagsOk.m, spec_FlagsOk.b, List.range_succ, bs_get, List.take_of_length_le, setAt, str_add, hr, flagsOk, q]
    omega
  | some k =>
    simp [sfS, q, fin1] at hr
    simp (maxSteps := 1000000) (disch := (first | omega | (simp; done) | (simp; omega))) [exB, spec_FlagsOk.m, spec_FlagsOk.b, List.range_succ, bs_get, List.take_of_length_le, setAt, str_add, hr, flagsOk, q]
theorem impl_isGid.says (h : impl_isGid.k M) (n : Int) : run M 147 [.c (I n)] [] = some (.c (.bool (inR 1 n 9999)), []) := by
  have h1 := impl_within.inR h.2 n 1 9999
  refine run_code (b := impl_isGid.m) h.1 ⟨0, ?_⟩
  simp (maxSteps := 1000000) (disch := (first | omega | (simp; done) | (simp; omega))) [exB, impl_isGid.m, impl_isGid.b, List.range_succ, bs_get, List.take_of_length_le, setAt, str_add, h1]
def mailOk (m : Mail) : Bool := inR 1 m.gid 9999 && inR 1 m.uid 9999 && flagsOk m.flags && decide (m.text.length ≤ 60)
theorem impl_MailOk.says (h : impl_MailOk.k M) (m : Mail) (hl : m.flags.length ≤ 1048576) : run M 166 [.a (encMail m)] [] = some (.c (.bool (mailOk m)), []) := by
  have h1 := impl_isGid.says h.2.1 m.gid
  have h2 := impl_isGid.says h.2.1 m.uid
  have h3 := impl_FlagsOk.says h.2.2 m.flags hl
  refine run_code (b := impl_MailOk.m) h.1 ⟨0, ?_⟩
  cases c1 : inR 1 m.gid 9999
  · simp (maxSteps := 1000000) (disch := (first | omega | (simp; done) | (simp; omega))) [exB, impl_MailOk.m, impl_MailOk.b, List.range_succ, bs_get, List.take_of_length_le, setAt, str_add, h1, c1, mailOk]
  cases c2 : inR 1 m.uid 9999
  · simp (maxSteps := 1000000) (disch := (first | omega | (simp; done) | (simp; omega))) [exB, impl_MailOk.m, impl_MailOk.b, List.range_succ, bs_get, List.take_of_length_le, setAt, str_add, h1, h2, c1, c2, mailOk]
  cases c3 : flagsOk m.flags
  · simp (maxSteps := 1000000) (disch := (first | omega | (simp; done) | (simp; omega))) [exB, impl_MailOk.m, impl_MailOk.b, List.range_succ, bs_get, List.take_of_length_le, setAt, str_add, h1, h2, h3, c1, c2, c3, mailOk]
  simp (maxSteps := 1000000) (disch := (first | omega | (simp; done) | (simp; omega))) [exB, impl_MailOk.m, impl_MailOk.b, List.range_succ, bs_get, List.take_of_length_le, setAt, str_add, h1, h2, h3, c1, c2, c3, mailOk]
  omega
theorem spec_MailOk.says (h : spec_MailOk.k M) (m : Mail) (hl : m.flags.length ≤ 1048576) : run M 187 [.a (encMail m)] [] = some (.c (.bool (mailOk m)), []) := by
  have h1 := spec_l01In.inR h.2.1 m.gid 1 9999
  have h2 := spec_l01In.inR h.2.1 m.uid 1 9999
  have h3 := spec_FlagsOk.says h.2.2 m.flags hl
  refine run_code (b := spec_MailOk.m) h.1 ⟨0, ?_⟩
  cases c1 : inR 1 m.gid 9999
  · simp (maxSteps := 1000000) (disch := (first | omega | (simp; done) | (simp; omega))) [exB, spec_MailOk.m, spec_MailOk.b, List.range_succ, bs_get, List.take_of_length_le, setAt, str_add, h1, c1, mailOk]
  cases c2 : inR 1 m.uid 9999
  · simp (maxSteps := 1000000) (disch := (first | omega | (simp; done) | (simp; omega))) [exB, spec_MailOk.m, spec_MailOk.b, List.range_succ, bs_get, List.take_of_length_le, setAt, str_add, h1, h2, c1, c2, mailOk]
  cases c3 : flagsOk m.flags
  · simp (maxSteps := 1000000) (disch := (first | omega | (simp; done) | (simp; omega))) [exB, spec_MailOk.m, spec_MailOk.b, List.range_succ, bs_get, List.take_of_length_le, setAt, str_add, h1, h2, h3, c1, c2, c3, mailOk]
  simp (maxSteps := 1000000) (disch := (first | omega | (simp; done) | (simp; omega))) [exB, spec_MailOk.m, spec_MailOk.b, List.range_succ, bs_get, List.take_of_length_le, setAt, str_add, h1, h2, h3, c1, c2, c3, mailOk]
  omega
def badSign (l : List UInt8) (i : Nat) : Bool := match l[i]? with
  | some b => (decide ((b.toNat : Int) < 97) || decide (122 < (b.toNat : Int))) && (decide ((b.toNat : Int) < 48) || decide (57 < (b.toNat : Int)))
  | none => false
theorem badSign_at {l : List UInt8} {i : Nat} (h : i < l.length) :
    badSign l i = ((decide ((l[i].toNat : Int) < 97) || decide (122 < (l[i].toNat : Int))) && (decide ((l[i].toNat : Int) < 48) || decide (57 < (l[i].toNat : Int)))) := by simp [badSign, h]
def nameOk (l : List UInt8) : Bool := (firstN (badSign l) l.length).isNone && inR 1 l.length 12
def inSS (l : List UInt8) (i : Nat) (x : Nat) : St := { t := [(0, .c (S l)), (3, .c (I i))], o := [], n := x }
def inSE (l : List UInt8) (x : Nat) : St := { t := [(0, .c (S l)), (3, .c (I l.length)), (7, .c (.bool false))], o := [], n := x }
theorem impl_NameOk.says (h : impl_NameOk.k M) (l : List UInt8) (hl : l.length ≤ 4611686018427387904) : run M 89 [.c (S l)] [] = some (.c (.bool (nameOk l)), []) := by
  have h1 := impl_within.inR h.2 l.length 1 12
  refine run_code (b := impl_NameOk.m) h.1 ⟨l.length + 1, ?_⟩
  obtain ⟨g, hr⟩ := early_loop (f := exC (run M) (l.length + 1) impl_NameOk.l0) l.length (badSign l) (inSS l) 2 (.bool false) 0 (inSE l)
    (fun i hi x c => by
      have e5 := wrap1 (i := i) (by omega)
      rw [badSign_at hi] at c
      generalize hb : ((l[i].toNat : Nat) : Int) = b at c
      by_cases c1 : b < 97
      · by_cases c2 : b < 48
        · simp [c1, c2] at c
        · by_cases c3 : 57 < b
          · simp [c1, c2, c3] at c
          · simp (maxSteps := 1000000) (disch := (first | omega | (simp; done) | (simp; omega))) [impl_NameOk.l0, List.range_succ, bs_get, List.take_of_length_le, setAt, str_add, inSS, hi, e5, hb, c1, c2, c3]
      · by_cases c4 : 122 < b
        · have c3 : 57 < b := by omega
          simp [c1, c4, c3] at c
        · simp (maxSteps := 1000000) (disch := (first | omega | (simp; done) | (simp; omega))) [impl_NameOk.l0, List.range_succ, bs_get, List.take_of_length_le, setAt, str_add, inSS, hi, e5, hb, c1, c4])
    (fun i hi x c => by
      rw [badSign_at hi] at c
      generalize hb : ((l[i].toNat : Nat) : Int) = b at c
      by_cases c1 : b < 97
      · by_cases c2 : b < 48
        · simp (maxSteps := 1000000) (disch := (first | omega | (simp; done) | (simp; omega))) [impl_NameOk.l0, List.range_succ, bs_get, List.take_of_length_le, setAt, str_add, inSS, hi, hb, c1, c2]
        · by_cases c3 : 57 < b
          · simp (maxSteps := 1000000) (disch := (first | omega | (simp; done) | (simp; omega))) [impl_NameOk.l0, List.range_succ, bs_get, List.take_of_length_le, setAt, str_add, inSS, hi, hb, c1, c2, c3]
          · simp [c1, c2, c3] at c
      · by_cases c4 : 122 < b
        · have c2 : ¬ b < 48 := by omega
          have c3 : 57 < b := by omega
          simp (maxSteps := 1000000) (disch := (first | omega | (simp; done) | (simp; omega))) [impl_NameOk.l0, List.range_succ, bs_get, List.take_of_length_le, setAt, str_add, inSS, hi, hb, c1, c2, c3, c4]
        · simp [c1, c4] at c)
    (fun x => by simp (maxSteps := 1000000) (disch := (first | omega | (simp; done) | (simp; omega))) [impl_NameOk.l0, List.range_succ, bs_get, List.take_of_length_le, setAt, str_add, inSS, inSE])
  cases q : firstN (badSign l) l.length with
  | none =>
    simp [inSS, inSE, q, fin1] at hr
    simp (maxSteps := 1000000) (disch := (first | omega | (simp; done) | (simp; omega))) [exB, impl_NameOk.m, impl_NameOk.b, List.range_succ, bs_get, List.take_of_length_le, setAt, str_add, hr, nameOk, q, h1]
  | some k =>
    simp [inSS, q, fin1] at hr
    simp (maxSteps := 1000000) (disch := (first | omega | (simp; done) | (simp; omega))) [exB, impl_NameOk.m, impl_NameOk.b, List.range_succ, bs_get, List.take_of_length_le, setAt, str_add, hr, nameOk, q]
def snSS (l : List UInt8) (i : Nat) (x : Nat) : St := { t := [(0, .c (S l)), (3, .c (I i))], o := [], n := x }
def snSE (l : List UInt8) (x : Nat) : St := { t := [(0, .c (S l)), (3, .c (I l.length)), (7, .c (.bool false))], o := [], n := x }
theorem spec_NameOk.says (h : spec_NameOk.k M) (l : List UInt8) (hl : l.length ≤ 4611686018427387904) : run M 90 [.c (S l)] [] = some (.c (.bool (nameOk l)), []) := by
  have h1 := spec_l01In.inR h.2 l.length 1 12
  refine run_code (b := spec_NameOk.m) h.1 ⟨l.length + 1, ?_⟩
  obtain ⟨g, hr⟩ := early_loop (f := exC (run M) (l.length + 1) spec_NameOk.l0) l.length (badSign l) (snSS l) 2 (.bool false) 0 (snSE l)
    (fun i hi x c => by
      have e5 := wrap1 (i := i) (by omega)
      rw [badSign_at hi] at c
      generalize hb : ((l[i].toNat : Nat) : Int) = b at c
      by_cases c1 : b < 97
      · by_cases c2 : b < 48
        · simp [c1, c2] at c
        · by_cases c3 : 57 < b
          · simp [c1, c2, c3] at c
          · simp (maxSteps := 1000000) (disch := (first | omega | (simp; done) | (simp; omega))) [spec_NameOk.l0, List.range_succ, bs_get, List.take_of_length_le, setAt, str_add, snSS, hi, e5, hb, c1, c2, c3]
      · by_cases c4 : 122 < b
        · have c3 : 57 < b := by omega
          simp [c1, c4, c3] at c
        · simp (maxSteps := 1000000) (disch := (first | omega | (simp; done) | (simp; omega))) [spec_NameOk.l0, List.range_succ, bs_get, List.take_of_length_le, setAt, str_add, snSS, hi, e5, hb, c1, c4])
    (fun i hi x c => by
      rw [badSign_at hi] at c
      generalize hb : ((l[i].toNat : Nat) : Int) = b at c
      by_cases c1 : b < 97
      · by_cases c2 : b < 48
        · simp (maxSteps := 1000000) (disch := (first | omega | (simp; done) | (simp; omega))) [spec_NameOk.l0, List.range_succ, bs_get, List.take_of_length_le, setAt, str_add, snSS, hi, hb, c1, c2]
        · by_cases c3 : 57 < b
          · simp (maxSteps := 1000000) (disch := (first | omega | (simp; done) | (simp; omega))) [spec_NameOk.l0, List.range_succ, bs_get, List.take_of_length_le, setAt, str_add, snSS, hi, hb, c1, c2, c3]
          · simp [c1, c2, c3] at c
      · by_cases c4 : 122 < b
        · have c2 : ¬ b < 48 := by omega
          have c3 : 57 < b := by omega
          simp (maxSteps := 1000000) (disch := (first | omega | (simp; done) | (simp; omega))) [spec_NameOk.l0, List.range_succ, bs_get, List.take_of_length_le, setAt, str_add, snSS, hi, hb, c1, c2, c3, c4]
        · simp [c1, c4] at c)
    (fun x => by simp (maxSteps := 1000000) (disch := (first | omega | (simp; done) | (simp; omega))) [spec_NameOk.l0, List.range_succ, bs_get, List.take_of_length_le, setAt, str_add, snSS, snSE])
  cases q : firstN (badSign l) l.length with
  | none =>
    simp [snSS, snSE, q, fin1] at hr
    simp (maxSteps := 1000000) (disch := (first | omega | (simp; done) | (simp; omega))) [exB, spec_NameOk.m, spec_NameOk.b, List.range_succ, bs_get, List.take_of_length_le, setAt, str_add, hr, nameOk, q, h1]
  | some k =>
    simp [snSS, q, fin1] at hr
    simp (maxSteps := 1000000) (disch := (first | omega | (simp; done) | (simp; omega))) [exB, spec_NameOk.m, spec_NameOk.b, List.range_succ, bs_get, List.take_of_length_le, setAt, str_add, hr, nameOk, q]
def badGid (l : List Int) (i : Nat) : Bool := match l[i]? with
  | some g => !inR 1 g 9999 || (decide (0 < i) && match l[i - 1]? with | some f => decide (g ≤ f) | none => false)
  | none => false
theorem badGid_at {l : List Int} {i : Nat} (h : i < l.length) : badGid l i = (!inR 1 l[i] 9999 || (decide (0 < i) && decide (l[i] ≤ l[i - 1]))) := by
  simp [badGid, h, (show i - 1 < l.length by omega)]
def gidsOk (l : List Int) (most : Int) : Bool := (firstN (badGid l) l.length).isNone && decide ((l.length : Int) ≤ most)
def agS (l : List Int) (most : Int) (i : Nat) (x : Nat) : St := { t := [(0, .c (ints l)), (1, .c (I most)), (7, .c (ints l)), (8, .c (I l.length)), (9, .c (I i))], o := [], n := x }
def agE (l : List Int) (most : Int) (x : Nat) : St := { t := [(0, .c (ints l)), (1, .c (I most)), (7, .c (ints l)), (8, .c (I l.length)), (9, .c (I l.length)), (10, .c (.bool false))], o := [], n := x }
theorem impl_areGids.says (h : impl_areGids.k M) (l : List Int) (most : Int) (hl : l.length ≤ 4611686018427387904) : run M 165 [.c (ints l), .c (I most)] [] = some (.c (.bool (gidsOk l most)), []) := by
  refine run_code (b := impl_areGids.m) h.1 ⟨l.length + 1, ?_⟩
  obtain ⟨g, hr⟩ := early_loop (f := exC (run M) (l.length + 1) impl_areGids.l0) l.length (badGid l) (agS l most) 4 (.bool false) 0 (agE l most)
    (fun i hi x c => by
      have e5 := wrap1 (i := i) (by omega)
      have hm := impl_isGid.says h.2 l[i]
      rw [badGid_at hi] at c
      simp at c
      simp only [c.1] at hm
      by_cases c1 : 0 < i
      · have c2 : ¬ l[i] ≤ l[i - 1] := by have := c.2 c1; omega
        have e6 : IntKind.i64.wrap ((i : Int) - 1) = ((i - 1 : Nat) : Int) := by rw [wrap_i64 (by omega) (by omega)]; omega
        simp (maxSteps := 1000000) (disch := (first | omega | (simp; done) | (simp; omega))) [impl_areGids.l0, List.range_succ, bs_get, List.take_of_length_le, setAt, str_add, agS, hi, hm, c1, c2, e5, e6, (show i - 1 < l.length by omega)]
      · simp (maxSteps := 1000000) (disch := (first | omega | (simp; done) | (simp; omega))) [impl_areGids.l0, List.range_succ, bs_get, List.take_of_length_le, setAt, str_add, agS, hi, hm, c1, e5])
    (fun i hi x c => by
      have hm := impl_isGid.says h.2 l[i]
      rw [badGid_at hi] at c
      cases c1 : inR 1 l[i] 9999
      · simp only [c1] at hm
        simp (maxSteps := 1000000) (disch := (first | omega | (simp; done) | (simp; omega))) [impl_areGids.l0, List.range_succ, bs_get, List.take_of_length_le, setAt, str_add, agS, hi, hm]
      · simp [c1] at c
        obtain ⟨c2, c3⟩ := c
        simp only [c1] at hm
        have e6 : IntKind.i64.wrap ((i : Int) - 1) = ((i - 1 : Nat) : Int) := by rw [wrap_i64 (by omega) (by omega)]; omega
        simp (maxSteps := 1000000) (disch := (first | omega | (simp; done) | (simp; omega))) [impl_areGids.l0, List.range_succ, bs_get, List.take_of_length_le, setAt, str_add, agS, hi, hm, c2, c3, e6, (show i - 1 < l.length by omega)])
    (fun x => by simp (maxSteps := 1000000) (disch := (first | omega | (simp; done) | (simp; omega))) [impl_areGids.l0, List.range_succ, bs_get, List.take_of_length_le, setAt, str_add, agS, agE])
  cases q : firstN (badGid l) l.length with
  | none =>
    simp [agS, agE, q, fin1] at hr
    simp (maxSteps := 1000000) (disch := (first | omega | (simp; done) | (simp; omega))) [exB, impl_areGids.m, impl_areGids.b, List.range_succ, bs_get, List.take_of_length_le, setAt, str_add, hr, gidsOk, q]
  | some k =>
    simp [agS, q, fin1] at hr
    simp (maxSteps := 1000000) (disch := (first | omega | (simp; done) | (simp; omega))) [exB, impl_areGids.m, impl_areGids.b, List.range_succ, bs_get, List.take_of_length_le, setAt, str_add, hr, gidsOk, q]
def soS (l : List Int) (most : Int) (i : Nat) (x : Nat) : St := { t := [(0, .c (ints l)), (1, .c (I most)), (5, .c (I i))], o := [], n := x }
def soE (l : List Int) (most : Int) (x : Nat) : St := { t := [(0, .c (ints l)), (1, .c (I most)), (5, .c (I l.length)), (9, .c (.bool false))], o := [], n := x }
theorem spec_l06Sorted.says (h : spec_l06Sorted.k M) (l : List Int) (most : Int) (hl : l.length ≤ 4611686018427387904) : run M 186 [.c (ints l), .c (I most)] [] = some (.c (.bool (gidsOk l most)), []) := by
  refine run_code (b := spec_l06Sorted.m) h.1 ⟨l.length + 1, ?_⟩
  obtain ⟨g, hr⟩ := early_loop (f := exC (run M) (l.length + 1) spec_l06Sorted.l0) l.length (badGid l) (soS l most) 4 (.bool false) 0 (soE l most)
    (fun i hi x c => by
      have e5 := wrap1 (i := i) (by omega)
      have hm := spec_l01In.inR h.2 l[i] 1 9999
      rw [badGid_at hi] at c
      simp at c
      simp only [c.1] at hm
      by_cases c1 : 0 < i
      · have c2 : ¬ l[i] ≤ l[i - 1] := by have := c.2 c1; omega
        have e6 : IntKind.i64.wrap ((i : Int) - 1) = ((i - 1 : Nat) : Int) := by rw [wrap_i64 (by omega) (by omega)]; omega
        simp (maxSteps := 1000000) (disch := (first | omega | (simp; done) | (simp; omega))) [spec_l06Sorted.l0, List.range_succ, bs_get, List.take_of_length_le, setAt, str_add, soS, hi, hm, c1, c2, e5, e6, (show i - 1 < l.length by omega)]
      · simp (maxSteps := 1000000) (disch := (first | omega | (simp; done) | (simp; omega))) [spec_l06Sorted.l0, List.range_succ, bs_get, List.take_of_length_le, setAt, str_add, soS, hi, hm, c1, e5])
    (fun i hi x c => by
      have hm := spec_l01In.inR h.2 l[i] 1 9999
      rw [badGid_at hi] at c
      cases c1 : inR 1 l[i] 9999
      · simp only [c1] at hm
        simp (maxSteps := 1000000) (disch := (first | omega | (simp; done) | (simp; omega))) [spec_l06Sorted.l0, List.range_succ, bs_get, List.take_of_length_le, setAt, str_add, soS, hi, hm]
      · simp [c1] at c
        obtain ⟨c2, c3⟩ := c
        simp only [c1] at hm
        have e6 : IntKind.i64.wrap ((i : Int) - 1) = ((i - 1 : Nat) : Int) := by rw [wrap_i64 (by omega) (by omega)]; omega
        simp (maxSteps := 1000000) (disch := (first | omega | (simp; done) | (simp; omega))) [spec_l06Sorted.l0, List.range_succ, bs_get, List.take_of_length_le, setAt, str_add, soS, hi, hm, c2, c3, e6, (show i - 1 < l.length by omega)])
    (fun x => by simp (maxSteps := 1000000) (disch := (first | omega | (simp; done) | (simp; omega))) [spec_l06Sorted.l0, List.range_succ, bs_get, List.take_of_length_le, setAt, str_add, soS, soE])
  cases q : firstN (badGid l) l.length with
  | none =>
    simp [soS, soE, q, fin1] at hr
    simp (maxSteps := 1000000) (disch := (first | omega | (simp; done) | (simp; omega))) [exB, spec_l06Sorted.m, spec_l06Sorted.b, List.range_succ, bs_get, List.take_of_length_le, setAt, str_add, hr, gidsOk, q]
  | some k =>
    simp [soS, q, fin1] at hr
    simp (maxSteps := 1000000) (disch := (first | omega | (simp; done) | (simp; omega))) [exB, spec_l06Sorted.m, spec_l06Sorted.b, List.range_succ, bs_get, List.take_of_length_le, setAt, str_add, hr, gidsOk, q]
def isAt (l : List Int) (g : Int) (i : Nat) : Bool := match l[i]? with
  | some x => decide (x = g)
  | none => false
theorem isAt_at {l : List Int} {g : Int} {i : Nat} (h : i < l.length) : isAt l g i = decide (l[i] = g) := by simp [isAt, h]
theorem isAt_mem (l : List Int) (g : Int) : (firstN (isAt l g) l.length).isSome = decide (g ∈ l) := by
  rw [Bool.eq_iff_iff]
  simp only [decide_eq_true_eq]
  cases q : firstN (isAt l g) l.length with
  | none =>
    have := firstN_none q
    refine ⟨fun h => by simp at h, fun h => ?_⟩
    obtain ⟨i, hi, e⟩ := List.getElem_of_mem h
    have h1 := this i hi
    rw [isAt_at hi] at h1
    simp [e] at h1
  | some k =>
    obtain ⟨h1, h2, _⟩ := firstN_some q
    rw [isAt_at h1] at h2
    simp at h2
    refine ⟨fun _ => ?_, fun _ => rfl⟩
    rw [← h2]; exact List.getElem_mem h1
def siS (l : List Int) (g : Int) (i : Nat) (x : Nat) : St := { t := [(0, .c (ints l)), (1, .c (I g)), (5, .c (I i))], o := [], n := x }
def siE (l : List Int) (g : Int) (x : Nat) : St := { t := [(0, .c (ints l)), (1, .c (I g)), (5, .c (I l.length)), (9, .c (.bool false))], o := [], n := x }
theorem spec_l06In.says (h : spec_l06In.k M) (l : List Int) (g : Int) (hl : l.length ≤ 4611686018427387904) : run M 132 [.c (ints l), .c (I g)] [] = some (.c (.bool (decide (g ∈ l))), []) := by
  refine run_code (b := spec_l06In.m) h ⟨l.length + 1, ?_⟩
  obtain ⟨g', hr⟩ := early_loop (f := exC (run M) (l.length + 1) spec_l06In.l0) l.length (isAt l g) (siS l g) 4 (.bool true) 0 (siE l g)
    (fun i hi x c => by
      have e5 := wrap1 (i := i) (by omega)
      rw [isAt_at hi] at c
      simp at c
      simp (maxSteps := 1000000) (disch := (first | omega | (simp; done) | (simp; omega))) [spec_l06In.l0, List.range_succ, bs_get, List.take_of_length_le, setAt, str_add, siS, hi, e5, c])
    (fun i hi x c => by
      rw [isAt_at hi] at c
      simp at c
      simp (maxSteps := 1000000) (disch := (first | omega | (simp; done) | (simp; omega))) [spec_l06In.l0, List.range_succ, bs_get, List.take_of_length_le, setAt, str_add, siS, hi, c])
    (fun x => by simp (maxSteps := 1000000) (disch := (first | omega | (simp; done) | (simp; omega))) [spec_l06In.l0, List.range_succ, bs_get, List.take_of_length_le, setAt, str_add, siS, siE])
  have hm := isAt_mem l g
  rw [← hm]
  cases q : firstN (isAt l g) l.length with
  | none =>
    simp [siS, siE, q, fin1] at hr
    simp (maxSteps := 1000000) (disch := (first | omega | (simp; done) | (simp; omega))) [exB, spec_l06In.m, spec_l06In.b, List.range_succ, bs_get, List.take_of_length_le, setAt, str_add, hr]
  | some k =>
    simp [siS, q, fin1] at hr
    simp (maxSteps := 1000000) (disch := (first | omega | (simp; done) | (simp; omega))) [exB, spec_l06In.m, spec_l06In.b, List.range_succ, bs_get, List.take_of_length_le, setAt, str_add, hr]
def xiS (l : List Int) (g : Int) (i : Nat) (x : Nat) : St := { t := [(0, .c (ints l)), (1, .c (I g)), (7, .c (I l.length)), (8, .c (I i))], o := [], n := x }
theorem slices_Index_int_int.says (h : slices_Index_int_int.k M) (l : List Int) (g : Int) (hl : l.length ≤ 4611686018427387904) : run M 234 [.c (ints l), .c (I g)] [] = some (.c (I (intO (firstN (isAt l g) l.length))), []) := by
  refine run_code (b := slices_Index_int_int.m) h ⟨l.length + 1, ?_⟩
  obtain ⟨g', hr⟩ := first_loop (f := exC (run M) (l.length + 1) slices_Index_int_int.l0) l.length (isAt l g) (xiS l g) atFin atFin_ne
    (fun i hi x c => by
      have e5 := wrap1 (i := i) (by omega)
      rw [isAt_at hi] at c
      simp at c
      have c' : ¬ g = l[i] := fun q => c q.symm
      simp (maxSteps := 1000000) (disch := (first | omega | (simp; done) | (simp; omega))) [slices_Index_int_int.l0, List.range_succ, bs_get, List.take_of_length_le, setAt, str_add, xiS, hi, e5, c, c'])
    (fun i hi x c => by
      rw [isAt_at hi] at c
      simp at c
      simp (maxSteps := 1000000) (disch := (first | omega | (simp; done) | (simp; omega))) [slices_Index_int_int.l0, List.range_succ, bs_get, List.take_of_length_le, setAt, str_add, xiS, hi, c, atFin]
      exact ⟨⟨[], [], _⟩, rfl⟩)
    (fun x => by simp (maxSteps := 1000000) (disch := (first | omega | (simp; done) | (simp; omega))) [slices_Index_int_int.l0, List.range_succ, bs_get, List.take_of_length_le, setAt, str_add, xiS, atFin])
  cases q : firstN (isAt l g) l.length with
  | none =>
    simp [xiS, q, atFin] at hr
    simp (maxSteps := 1000000) (disch := (first | omega | (simp; done) | (simp; omega))) [exB, slices_Index_int_int.m, slices_Index_int_int.b, List.range_succ, bs_get, List.take_of_length_le, setAt, str_add, hr, intO]
  | some k =>
    simp [xiS, q, atFin] at hr
    simp (maxSteps := 1000000) (disch := (first | omega | (simp; done) | (simp; omega))) [exB, slices_Index_int_int.m, slices_Index_int_int.b, List.range_succ, bs_get, List.take_of_length_le, setAt, str_add, hr, intO]
theorem intO_pos (q : Option Nat) : decide (0 ≤ intO q) = q.isSome := by cases q <;> simp [intO]
theorem slices_Contains_int_int.says (h : slices_Contains_int_int.k M) (l : List Int) (g : Int) (hl : l.length ≤ 4611686018427387904) : run M 156 [.c (ints l), .c (I g)] [] = some (.c (.bool (decide (g ∈ l))), []) := by
  have h1 := slices_Index_int_int.says h.2 l g hl
  refine run_code (b := slices_Contains_int_int.m) h.1 ⟨0, ?_⟩
  rw [← isAt_mem l g, ← intO_pos]
  simp (maxSteps := 1000000) (disch := (first | omega | (simp; done) | (simp; omega))) [exB, slices_Contains_int_int.m, slices_Contains_int_int.b, List.range_succ, bs_get, List.take_of_length_le, setAt, str_add, h1]
end Mx

namespace Mx
open Go
variable {M : Nat → Option Body}
def guS (l : List Int) (x : Int) (i : Nat) (s : List Int) (m : Nat × Nat) : St := { t := [(0, .c (ints l)), (1, .c (I x)), (5, .c (.row 8 m.1 0 s.length)), (6, .c (I i))], o := [(8, ⟨m.1, 1, true, false, irow s⟩)], n := m.2 }
def guE (l : List Int) (x : Int) (s : List Int) (m : Nat × Nat) : St := { t := [(0, .c (ints l)), (1, .c (I x)), (5, .c (.row 8 m.1 0 s.length)), (6, .c (I l.length)), (12, .c (.bool false))], o := [(8, ⟨m.1, 1, true, false, irow s⟩)], n := m.2 }
def gvS (l : List Int) (x : Int) (i : Nat) (s : List Int) (m : Nat × Nat) : St := { t := [(0, .c (ints l)), (1, .c (I x)), (5, .c (.row 8 m.1 0 s.length)), (7, .c (I i))], o := [(8, ⟨m.1, 1, true, false, irow s⟩)], n := m.2 }
def gvE (l : List Int) (x : Int) (s : List Int) (m : Nat × Nat) : St := { t := [(0, .c (ints l)), (1, .c (I x)), (5, .c (.row 8 m.1 0 s.length)), (7, .c (I l.length)), (35, .c (.bool false))], o := [(8, ⟨m.1, 1, true, false, irow s⟩)], n := m.2 }
theorem filter_fold (p : Int → Bool) : ∀ (l s : List Int), l.foldl (fun s a => if p a = true then s ++ [a] else s) s = s ++ l.filter p
  | [], s => by simp
  | a :: l, s => by
    rw [List.foldl_cons, filter_fold p l, List.filter_cons]
    by_cases h : p a = true <;> simp [h]
theorem irow_snoc (s : List Int) (a : Int) : irow (s ++ [a]) = irow s ++ [[I a]] := by simp [irow]
theorem irow_length (s : List Int) : (irow s).length = s.length := by simp [irow]
theorem spec_l06Put.says (h : spec_l06Put.k M) (l : List Int) (x : Int) (hl : l.length ≤ 16777216) : run M 133 [.c (ints l), .c (I x)] [] = some (.c (.sl true 1 (irow (gput l x))), []) := by
  refine run_code (b := spec_l06Put.m) h ⟨l.length + 1, ?_⟩
  obtain ⟨g, hr⟩ := fold_loop (f := exC (run M) (l.length + 1) spec_l06Put.l0) l (fun s a => if decide (a < x) = true then s ++ [a] else s) (fun i s => s.length ≤ i) (guS l x) 0 (guE l x)
    (fun i h s hs => by split <;> (try simp) <;> omega)
    (fun i hi s m hs => by
      obtain ⟨v, m⟩ := m
      have e5 := wrap1 (i := i) (by omega)
      have e6 : s.length + 1 ≤ 4294967296 := by omega
      have e9 := irow_length s
      simp only [Prod.exists]
      by_cases c : l[i] < x
      · simp only [c, decide_true, if_true, guS, irow_snoc]
        generalize irow s = rr at *
        simp (maxSteps := 1000000) [spec_l06Put.l0, List.range_succ, bs_get, setAt, hi, c, e5, e6, e9, List.take_of_length_le]
      · simp only [c, decide_false, Bool.false_eq_true, if_false]
        simp (maxSteps := 1000000) [spec_l06Put.l0, List.range_succ, bs_get, setAt, guS, hi, c, e5])
    (fun s m hs => by
      obtain ⟨v, m⟩ := m
      simp only [Prod.exists]
      simp (maxSteps := 1000000) [spec_l06Put.l0, List.range_succ, bs_get, setAt, guS, guE]) [] (by simp)
  obtain ⟨g', hr'⟩ := fold_loop (f := exC (run M) (l.length + 1) spec_l06Put.l1) l (fun s a => if decide (x < a) = true then s ++ [a] else s) (fun i s => s.length ≤ l.length + 1 + i) (gvS l x) 2 (gvE l x)
    (fun i h s hs => by split <;> (try simp) <;> omega)
    (fun i hi s m hs => by
      obtain ⟨v, m⟩ := m
      have e5 := wrap1 (i := i) (by omega)
      have e6 : s.length + 1 ≤ 4294967296 := by omega
      have e9 := irow_length s
      simp only [Prod.exists]
      by_cases c : x < l[i]
      · simp only [c, decide_true, if_true, gvS, irow_snoc]
        generalize irow s = rr at *
        simp (maxSteps := 1000000) [spec_l06Put.l1, List.range_succ, bs_get, setAt, hi, c, e5, e6, e9, List.take_of_length_le]
      · simp only [c, decide_false, Bool.false_eq_true, if_false]
        simp (maxSteps := 1000000) [spec_l06Put.l1, List.range_succ, bs_get, setAt, gvS, hi, c, e5])
    (fun s m hs => by
      obtain ⟨v, m⟩ := m
      simp only [Prod.exists]
      simp (maxSteps := 1000000) [spec_l06Put.l1, List.range_succ, bs_get, setAt, gvS, gvE]) (l.filter (fun y => decide (y < x)) ++ [x]) (by have := List.length_filter_le (fun y => decide (y < x)) l; simp; omega)
  rw [filter_fold] at hr hr'
  have hfl := List.length_filter_le (fun y => decide (y < x)) l
  have e6 : (l.filter (fun y => decide (y < x))).length + 1 ≤ 4294967296 := by omega
  have e9 := irow_length (l.filter (fun y => decide (y < x)))
  have e10 := irow_length (l.filter (fun y => decide (y < x)) ++ [x] ++ l.filter (fun y => decide (x < y)))
  have e11 : (l.filter (fun y => decide (y < x)) ++ [x] ++ l.filter (fun y => decide (x < y))).length = (l.filter (fun y => decide (y < x))).length + ((l.filter (fun y => decide (x < y))).length + 1) := by simp only [List.length_append, List.length_singleton]; omega
  rw [e11] at e10
  have e12 := irow_snoc (l.filter (fun y => decide (y < x))) x
  unfold gput
  simp only [List.nil_append] at hr
  simp only [guS, guE, List.length_nil, e11] at hr
  simp only [gvS, gvE, e12, e11, List.length_append, List.length_singleton] at hr'
  generalize irow (l.filter (fun y => decide (y < x)) ++ [x] ++ l.filter (fun y => decide (x < y))) = r2 at *
  generalize irow (l.filter (fun y => decide (y < x))) = r1 at *
  simp [irow] at hr
  simp at hr'
  simp (maxSteps := 1000000) [exB, spec_l06Put.m, spec_l06Put.b, List.range_succ, bs_get, setAt, hr, hr', e6, e9, e10, List.take_of_length_le, irow]
structure GX where
  w : Nat
  v8 : Nat
  v1 : Nat
  v2 : Nat
  r8 : List (List T)
  r1 : List (List T)
  n : Nat
def gO0 (s : List Int) (x : GX) : List (Nat × Ob) := match x.w with
  | 0 => [(8, ⟨x.v8, 1, true, false, irow s⟩)]
  | _ => [(8, ⟨x.v8, 1, true, false, x.r8⟩), (12700, ⟨x.v1, 1, true, false, irow s⟩)]
def gR0 (s : List Int) (x : GX) : T := match x.w with
  | 0 => .row 8 x.v8 0 s.length
  | _ => .row 12700 x.v1 0 s.length
def gO (s : List Int) (x : GX) : List (Nat × Ob) := match x.w with
  | 0 => [(8, ⟨x.v8, 1, true, false, irow s⟩)]
  | 1 => [(8, ⟨x.v8, 1, true, false, x.r8⟩), (12700, ⟨x.v1, 1, true, false, irow s⟩)]
  | 2 => [(8, ⟨x.v8, 1, true, false, x.r8⟩), (14600, ⟨x.v2, 1, true, false, irow s⟩)]
  | _ => [(8, ⟨x.v8, 1, true, false, x.r8⟩), (12700, ⟨x.v1, 1, true, false, x.r1⟩), (14600, ⟨x.v2, 1, true, false, irow s⟩)]
def gR (s : List Int) (x : GX) : T := match x.w with
  | 0 => .row 8 x.v8 0 s.length
  | 1 => .row 12700 x.v1 0 s.length
  | _ => .row 14600 x.v2 0 s.length
theorem GX.of {p : GX → Prop} (w r8 r1) (h : ∃ v8 v1 v2 n, p ⟨w, v8, v1, v2, r8, r1, n⟩) : ∃ x, p x := by
  obtain ⟨v8, v1, v2, n, h⟩ := h; exact ⟨_, h⟩
def gjS (a b : List Int) (i : Nat) (s : List Int) (x : GX) : St := { t := [(0, .c (ints a)), (1, .c (ints b)), (5, .c (gR0 s x)), (6, .c (I i))], o := gO0 s x, n := x.n }
def gjE (a b : List Int) (s : List Int) (x : GX) : St := { t := [(0, .c (ints a)), (1, .c (ints b)), (5, .c (gR0 s x)), (6, .c (I a.length)), (12, .c (.bool false))], o := gO0 s x, n := x.n }
def gkS (b : List Int) (i : Nat) (s : List Int) (x : GX) : St := { t := [(1, .c (ints b)), (5, .c (gR s x)), (7, .c (I i))], o := gO s x, n := x.n }
def gkE (b : List Int) (s : List Int) (x : GX) : St := { t := [(1, .c (ints b)), (5, .c (gR s x)), (7, .c (I b.length)), (31, .c (.bool false))], o := gO s x, n := x.n }
theorem irow_scalar (l : List Int) : (irow l).all (fun r => r.all T.scalar) = true := by simp [irow, T.scalar]
theorem spec_JoinGone.turn0 (k1 : spec_l06In.k M) (k2 : spec_l06Put.k M) (a b : List Int) (K i : Nat) (hi : i < a.length) (ha : a.length ≤ 1048576) (s : List Int) (hs : s.length ≤ i) (x : GX) :
    ∃ y, exC (run M) K spec_JoinGone.l0 (gjS a b i s x) = some (.normal, gjS a b (i + 1) (gadd s a[i]) y) := by
  have h1 := spec_l06In.says k1 s a[i] (by omega)
  have h2 := spec_l06Put.says k2 s a[i] (by omega)
  have e5 := wrap1 (i := i) (by omega)
  have e9 := irow_length s
  have e10 := irow_length (gput s a[i])
  have hfl := irow_scalar (gput s a[i])
  simp only [ints] at h1 h2
  obtain ⟨w, v8, v1, v2, r8, r1, n⟩ := x
  unfold gadd
  by_cases c : a[i] ∈ s
  · rw [if_pos c]
    rw [decide_eq_true c] at h1
    refine GX.of w r8 r1 ?_
    match w with
    | 0 => simp only [gjS, gO0, gR0]; generalize irow s = rr at *; simp (maxSteps := 1000000) [spec_JoinGone.l0, List.range_succ, bs_get, setAt, hi, h1, e5, e9, List.take_of_length_le]
    | w + 1 => simp only [gjS, gO0, gR0]; generalize irow s = rr at *; simp (maxSteps := 1000000) [spec_JoinGone.l0, List.range_succ, bs_get, setAt, hi, h1, e5, e9, List.take_of_length_le]
  · rw [if_neg c]
    rw [decide_eq_false c] at h1
    match w with
    | 0 =>
      refine GX.of 1 (irow s) r1 ?_
      simp only [gjS, gO0, gR0]; generalize irow (gput s a[i]) = r2 at *; generalize irow s = rr at *; simp (maxSteps := 1000000) [spec_JoinGone.l0, List.range_succ, bs_get, setAt, hi, h1, h2, e5, e9, e10, hfl, List.take_of_length_le]
    | w + 1 =>
      refine GX.of 1 r8 r1 ?_
      simp only [gjS, gO0, gR0]; generalize irow (gput s a[i]) = r2 at *; generalize irow s = rr at *; simp (maxSteps := 1000000) [spec_JoinGone.l0, List.range_succ, bs_get, setAt, hi, h1, h2, e5, e9, e10, hfl, List.take_of_length_le]
theorem spec_JoinGone.turn1 (k1 : spec_l06In.k M) (k2 : spec_l06Put.k M) (b : List Int) (K i : Nat) (hi : i < b.length) (hb : b.length ≤ 1048576) (s : List Int) (hs : s.length ≤ 1048576 + i) (x : GX) :
    ∃ y, exC (run M) K spec_JoinGone.l1 (gkS b i s x) = some (.normal, gkS b (i + 1) (gadd s b[i]) y) := by
  have h1 := spec_l06In.says k1 s b[i] (by omega)
  have h2 := spec_l06Put.says k2 s b[i] (by omega)
  have e5 := wrap1 (i := i) (by omega)
  have e9 := irow_length s
  have e10 := irow_length (gput s b[i])
  have hfl := irow_scalar (gput s b[i])
  simp only [ints] at h1 h2
  obtain ⟨w, v8, v1, v2, r8, r1, n⟩ := x
  unfold gadd
  by_cases c : b[i] ∈ s
  · rw [if_pos c]
    rw [decide_eq_true c] at h1
    refine GX.of w r8 r1 ?_
    match w with
    | 0 => simp only [gkS, gO, gR]; generalize irow s = rr at *; simp (maxSteps := 1000000) [spec_JoinGone.l1, List.range_succ, bs_get, setAt, hi, h1, e5, e9, List.take_of_length_le]
    | 1 => simp only [gkS, gO, gR]; generalize irow s = rr at *; simp (maxSteps := 1000000) [spec_JoinGone.l1, List.range_succ, bs_get, setAt, hi, h1, e5, e9, List.take_of_length_le]
    | 2 => simp only [gkS, gO, gR]; generalize irow s = rr at *; simp (maxSteps := 1000000) [spec_JoinGone.l1, List.range_succ, bs_get, setAt, hi, h1, e5, e9, List.take_of_length_le]
    | w + 3 => simp only [gkS, gO, gR]; generalize irow s = rr at *; simp (maxSteps := 1000000) [spec_JoinGone.l1, List.range_succ, bs_get, setAt, hi, h1, e5, e9, List.take_of_length_le]
  · rw [if_neg c]
    rw [decide_eq_false c] at h1
    match w with
    | 0 =>
      refine GX.of 2 (irow s) r1 ?_
      simp only [gkS, gO, gR]; generalize irow (gput s b[i]) = r2 at *; generalize irow s = rr at *; simp (maxSteps := 1000000) [spec_JoinGone.l1, List.range_succ, bs_get, setAt, hi, h1, h2, e5, e9, e10, hfl, List.take_of_length_le]
    | 1 =>
      refine GX.of 3 r8 (irow s) ?_
      simp only [gkS, gO, gR]; generalize irow (gput s b[i]) = r2 at *; generalize irow s = rr at *; simp (maxSteps := 1000000) [spec_JoinGone.l1, List.range_succ, bs_get, setAt, hi, h1, h2, e5, e9, e10, hfl, List.take_of_length_le]
    | 2 =>
      refine GX.of 2 r8 r1 ?_
      simp only [gkS, gO, gR]; generalize irow (gput s b[i]) = r2 at *; generalize irow s = rr at *; simp (maxSteps := 1000000) [spec_JoinGone.l1, List.range_succ, bs_get, setAt, hi, h1, h2, e5, e9, e10, hfl, List.take_of_length_le]
    | w + 3 =>
      refine GX.of 3 r8 r1 ?_
      simp only [gkS, gO, gR]; generalize irow (gput s b[i]) = r2 at *; generalize irow s = rr at *; simp (maxSteps := 1000000) [spec_JoinGone.l1, List.range_succ, bs_get, setAt, hi, h1, h2, e5, e9, e10, hfl, List.take_of_length_le]
theorem spec_JoinGone.says (h : spec_JoinGone.k M) (a b : List Int) (ha : a.length ≤ 1048576) (hb : b.length ≤ 1048576) : run M 43 [.c (ints a), .c (ints b)] [] = some (.c (.sl true 1 (irow (joinGone a b))), []) := by
  obtain ⟨h0, k1, k2⟩ := h
  refine run_code (b := spec_JoinGone.m) h0 ⟨a.length + b.length + 1, ?_⟩
  obtain ⟨g, hr⟩ := fold_loop (f := exC (run M) (a.length + b.length + 1) spec_JoinGone.l0) a gadd (fun i s => s.length ≤ i) (gjS a b) 0 (gjE a b)
    (fun i h s hs => by have := gadd_len s a[i]; omega)
    (fun i hi s x hs => spec_JoinGone.turn0 k1 k2 a b _ i hi ha s hs x)
    (fun s x hs => by
      obtain ⟨w, v8, v1, v2, r8, r1, n⟩ := x
      refine GX.of w r8 r1 ?_
      match w with
      | 0 => simp only [gjS, gjE, gO0, gR0]; simp (maxSteps := 1000000) [spec_JoinGone.l0, List.range_succ, bs_get, setAt]
      | w + 1 => simp only [gjS, gjE, gO0, gR0]; simp (maxSteps := 1000000) [spec_JoinGone.l0, List.range_succ, bs_get, setAt]) [] (by simp)
  have hla := gfold_len a []
  obtain ⟨g', hr'⟩ := fold_loop (f := exC (run M) (a.length + b.length + 1) spec_JoinGone.l1) b gadd (fun i s => s.length ≤ 1048576 + i) (gkS b) 2 (gkE b)
    (fun i h s hs => by have := gadd_len s b[i]; omega)
    (fun i hi s x hs => spec_JoinGone.turn1 k1 k2 b _ i hi hb s hs x)
    (fun s x hs => by
      obtain ⟨w, v8, v1, v2, r8, r1, n⟩ := x
      refine GX.of w r8 r1 ?_
      match w with
      | 0 => simp only [gkS, gkE, gO, gR]; simp (maxSteps := 1000000) [spec_JoinGone.l1, List.range_succ, bs_get, setAt]
      | 1 => simp only [gkS, gkE, gO, gR]; simp (maxSteps := 1000000) [spec_JoinGone.l1, List.range_succ, bs_get, setAt]
      | 2 => simp only [gkS, gkE, gO, gR]; simp (maxSteps := 1000000) [spec_JoinGone.l1, List.range_succ, bs_get, setAt]
      | w + 3 => simp only [gkS, gkE, gO, gR]; simp (maxSteps := 1000000) [spec_JoinGone.l1, List.range_succ, bs_get, setAt]) (a.foldl gadd []) (by simp at hla ⊢; omega)
  have hr2 := fun x => loopN_le (hr x) (show a.length + 1 ≤ a.length + b.length + 1 by omega)
  have hr3 := fun x => loopN_le (hr' x) (show b.length + 1 ≤ a.length + b.length + 1 by omega)
  have hj : b.foldl gadd (a.foldl gadd []) = joinGone a b := by rw [joinGone, List.foldl_append]
  rw [hj] at hr3
  have e9 := irow_length (joinGone a b)
  generalize joinGone a b = j at *
  generalize a.foldl gadd [] = s at *
  have hr4 : ∀ y : GX, ∃ z : GX, loopN (exC (run M) (a.length + b.length + 1) spec_JoinGone.l1) (a.length + b.length + 1) (gkS b 0 s y) = some (.exit 2, gkE b j z) := fun y => ⟨_, hr3 y⟩
  have hq := hr2 ⟨0, 2000016, 0, 0, [], [], 2000064⟩
  generalize g ⟨0, 2000016, 0, 0, [], [], 2000064⟩ = y at hq
  clear hr hr2 hr' hr3
  obtain ⟨w, v8, v1, v2, r8, r1, n⟩ := y
  match w with
  | 0 =>
    obtain ⟨⟨w', u8, u1, u2, q8, q1, m⟩, hz⟩ := hr4 ⟨0, v8, v1, v2, r8, r1, n + 16⟩
    simp [gjS, gjE, gO0, gR0, irow] at hq
    match w' with
    | 0 => simp [gkS, gkE, gO, gR, irow] at hz; simp only [irow] at e9 ⊢; simp (maxSteps := 1000000) [exB, spec_JoinGone.m, spec_JoinGone.b, List.range_succ, bs_get, setAt, hq, hz, e9, List.take_of_length_le]
    | 1 => simp [gkS, gkE, gO, gR, irow] at hz; simp only [irow] at e9 ⊢; simp (maxSteps := 1000000) [exB, spec_JoinGone.m, spec_JoinGone.b, List.range_succ, bs_get, setAt, hq, hz, e9, List.take_of_length_le]
    | 2 => simp [gkS, gkE, gO, gR, irow] at hz; simp only [irow] at e9 ⊢; simp (maxSteps := 1000000) [exB, spec_JoinGone.m, spec_JoinGone.b, List.range_succ, bs_get, setAt, hq, hz, e9, List.take_of_length_le]
    | w' + 3 => simp [gkS, gkE, gO, gR, irow] at hz; simp only [irow] at e9 ⊢; simp (maxSteps := 1000000) [exB, spec_JoinGone.m, spec_JoinGone.b, List.range_succ, bs_get, setAt, hq, hz, e9, List.take_of_length_le]
  | w + 1 =>
    obtain ⟨⟨w', u8, u1, u2, q8, q1, m⟩, hz⟩ := hr4 ⟨1, v8, v1, v2, r8, r1, n + 16⟩
    simp [gjS, gjE, gO0, gR0, irow] at hq
    match w' with
    | 0 => simp [gkS, gkE, gO, gR, irow] at hz; simp only [irow] at e9 ⊢; simp (maxSteps := 1000000) [exB, spec_JoinGone.m, spec_JoinGone.b, List.range_succ, bs_get, setAt, hq, hz, e9, List.take_of_length_le]
    | 1 => simp [gkS, gkE, gO, gR, irow] at hz; simp only [irow] at e9 ⊢; simp (maxSteps := 1000000) [exB, spec_JoinGone.m, spec_JoinGone.b, List.range_succ, bs_get, setAt, hq, hz, e9, List.take_of_length_le]
    | 2 => simp [gkS, gkE, gO, gR, irow] at hz; simp only [irow] at e9 ⊢; simp (maxSteps := 1000000) [exB, spec_JoinGone.m, spec_JoinGone.b, List.range_succ, bs_get, setAt, hq, hz, e9, List.take_of_length_le]
    | w' + 3 => simp [gkS, gkE, gO, gR, irow] at hz; simp only [irow] at e9 ⊢; simp (maxSteps := 1000000) [exB, spec_JoinGone.m, spec_JoinGone.b, List.range_succ, bs_get, setAt, hq, hz, e9, List.take_of_length_le]
theorem run_sort (h : M 135 = some (.ext sortG)) (zs : List Int) (hz : zs.length ≤ 4294967296) : run M 135 [.c (.row 0 0 0 zs.length)] [(0, ⟨0, 1, true, false, irow zs⟩)] = some (.tup [], [(0, ⟨0, 1, true, false, irow (sortI zs)⟩)]) := by
  refine run_ext h ?_
  simp [sortG, lentInts, rowsInts_irow, hz]
theorem run_compact (h : M 136 = some (.ext compactG)) (zs : List Int) (hz : zs.length ≤ 4294967296) :
    run M 136 [.c (.row 0 0 0 zs.length)] [(0, ⟨0, 1, true, false, irow zs⟩)] = some (.c (.row 0 0 0 (Lib.compact zs).length), [(0, ⟨0, 1, true, false, irow (Lib.compact zs ++ List.replicate (zs.length - (Lib.compact zs).length) 0)⟩)]) := by
  refine run_ext h ?_
  simp [compactG, lentInts, rowsInts_irow, hz]
theorem impl_JoinGone.says (h : impl_JoinGone.k M) (a b : List Int) (ha : a.length ≤ 1048576) (hb : b.length ≤ 1048576) : run M 44 [.c (ints a), .c (ints b)] [] = some (.c (.sl true 1 (irow (joinGone a b))), []) := by
  obtain ⟨h0, k1, k2, k3⟩ := h
  have h1 := impl_copyInts.says k1 a ha
  have hab : (a ++ b).length ≤ 4294967296 := by simp; omega
  have h2 := run_sort k2 (a ++ b) hab
  have hsl : (sortI (a ++ b)).length = (a ++ b).length := by simp [sortI]
  have h3 := run_compact k3 (sortI (a ++ b)) (by rw [hsl]; exact hab)
  rw [joinGone_sort] at h3
  have hjl : (joinGone a b).length ≤ (a ++ b).length := by
    have := gfold_len (a ++ b) []; simp only [joinGone]; simpa using this
  refine run_code (b := impl_JoinGone.m) h0 ⟨0, ?_⟩
  rw [hsl] at h3
  have e1 : irow (a ++ b) = irow a ++ irow b := by simp [irow]
  have e2 : irow (joinGone a b ++ List.replicate ((a ++ b).length - (joinGone a b).length) 0) = irow (joinGone a b) ++ irow (List.replicate ((a ++ b).length - (joinGone a b).length) 0) := by simp [irow]
  rw [e1] at h2
  rw [e2] at h3
  simp only [List.length_append] at h2 h3 hab hjl
  have l1 := irow_length a
  have l2 := irow_length b
  have l3 := irow_length (joinGone a b)
  have l4 : (irow (List.replicate (a.length + b.length - (joinGone a b).length) 0)).length = a.length + b.length - (joinGone a b).length := by simp [irow]
  have s1 := irow_scalar (sortI (a ++ b))
  have s2 := irow_scalar (joinGone a b)
  have l5 := irow_length (sortI (a ++ b))
  rw [hsl] at l5
  simp only [List.length_append] at l5
  simp only [ints] at h1 ⊢
  generalize irow (List.replicate (a.length + b.length - (joinGone a b).length) 0) = rz at *
  generalize irow (sortI (a ++ b)) = rs at *
  generalize joinGone a b = j at *
  generalize irow j = rj at *
  have e5 : a.length ≤ 4294967296 := by omega
  have e6 : j.length ≤ rj.length + rz.length := by omega
  generalize irow a = ra at *
  generalize irow b = rb at *
  simp (maxSteps := 1000000) [exB, impl_JoinGone.m, impl_JoinGone.b, List.range_succ, bs_get, setAt, h1, h2, h3, hab, l1, l2, l3, l4, l5, e5, List.take_of_length_le]
end Mx

namespace Mx
open Go
variable {M : Nat → Option Body}
def badMail (b : Box) (i : Nat) : Bool := match b.mails[i]? with
  | some m => !mailOk m || decide (b.next ≤ m.uid) || (decide (0 < i) && match b.mails[i - 1]? with | some p => decide (m.uid ≤ p.uid) | none => false) || !decide (intO (mailO b.mails m.gid) = (i : Int)) || decide (m.gid ∈ b.gone)
  | none => false
theorem badMail_at {b : Box} {i : Nat} (h : i < b.mails.length) : badMail b i = (!mailOk b.mails[i] || decide (b.next ≤ b.mails[i].uid) || (decide (0 < i) && decide (b.mails[i].uid ≤ b.mails[i - 1].uid)) ||
    !decide (intO (mailO b.mails b.mails[i].gid) = (i : Int)) || decide (b.mails[i].gid ∈ b.gone)) := by
  simp [badMail, h, (show i - 1 < b.mails.length by omega)]
def boxOk (b : Box) : Bool := inR 1 b.gid 9999 && nameOk b.name && stampOk b.time b.who && inR 1 b.next 10000 && decide (b.mails.length ≤ 10) && gidsOk b.gone 40 && (firstN (badMail b) b.mails.length).isNone
def ibS (b : Box) (i : Nat) (x : Nat × Nat) : St := { t := [(1, .c (.ptr 1 x.1 0 0)), (40, .c (mails b.mails)), (41, .c (I b.mails.length)), (42, .c (I i))], o := [(1, ⟨x.1, 7, true, true, [encBox b]⟩)], n := x.2 }
def ibSE (b : Box) (x : Nat × Nat) : St := { t := [(1, .c (.ptr 1 x.1 0 0)), (40, .c (mails b.mails)), (41, .c (I b.mails.length)), (42, .c (I b.mails.length)), (43, .c (.bool false))], o := [(1, ⟨x.1, 7, true, true, [encBox b]⟩)], n := x.2 }
theorem impl_BoxOk.good (hat : impl_MailAt.k M) (hin : slices_Contains_int_int.k M) (hmo : impl_MailOk.k M) (b : Box) (hml : b.mails.length ≤ 1048576) (hgl : b.gone.length ≤ 4611686018427387904) (hw : ∀ m ∈ b.mails, m.flags.length ≤ 1048576)
    (i : Nat) (hi : i < b.mails.length) (x : Nat × Nat) (c : badMail b i = false) : ∃ y, exC (run M) (b.mails.length + 1) impl_BoxOk.l0 (ibS b i x) = some (.normal, ibS b (i + 1) y) := by
      obtain ⟨v, x⟩ := x
      simp only [Prod.exists]
      have hm := impl_MailOk.says hmo b.mails[i] (hw _ (List.getElem_mem hi))
      have ha := impl_MailAt.says hat b b.mails[i].gid hml
      have hg := slices_Contains_int_int.says hin b.gone b.mails[i].gid hgl
      simp only [encMail, encBox] at hm ha hg
      rw [badMail_at hi] at c
      simp at c
      obtain ⟨⟨⟨⟨c1, c2⟩, c3⟩, c4⟩, c5⟩ := c
      have e5 := wrap1 (i := i) (by omega)
      rw [c1] at hm
      rw [c4] at ha
      rw [decide_eq_false c5] at hg
      have c2' : ¬ b.next ≤ b.mails[i].uid := by omega
      by_cases c6 : 0 < i
      · have e6 : IntKind.i64.wrap ((i : Int) - 1) = ((i - 1 : Nat) : Int) := by rw [wrap_i64 (by omega) (by omega)]; omega
        have c3' : ¬ b.mails[i].uid ≤ b.mails[i - 1].uid := by have := c3 c6; omega
        simp (maxSteps := 1000000) [impl_BoxOk.l0, List.range_succ, bs_get, setAt, ibS, encMail, hi, hm, ha, hg, c2', c6, c3', e5, e6, (show i - 1 < b.mails.length by omega)]
      · simp (maxSteps := 1000000) [impl_BoxOk.l0, List.range_succ, bs_get, setAt, ibS, encMail, hi, hm, ha, hg, c2', c6, e5]
theorem impl_BoxOk.bad (hat : impl_MailAt.k M) (hin : slices_Contains_int_int.k M) (hmo : impl_MailOk.k M) (b : Box) (hml : b.mails.length ≤ 1048576) (hgl : b.gone.length ≤ 4611686018427387904) (hw : ∀ m ∈ b.mails, m.flags.length ≤ 1048576)
    (i : Nat) (hi : i < b.mails.length) (x : Nat × Nat) (c : badMail b i = true) : ∃ k, exC (run M) (b.mails.length + 1) impl_BoxOk.l0 (ibS b i x) = some (.ret, { t := [(2, .c (.bool false))], o := [], n := k }) := by
      obtain ⟨v, x⟩ := x
      have hm := impl_MailOk.says hmo b.mails[i] (hw _ (List.getElem_mem hi))
      have ha := impl_MailAt.says hat b b.mails[i].gid hml
      have hg := slices_Contains_int_int.says hin b.gone b.mails[i].gid hgl
      simp only [encMail, encBox] at hm ha hg
      rw [badMail_at hi] at c
      cases c1 : mailOk b.mails[i]
      · rw [c1] at hm
        simp (maxSteps := 1000000) [impl_BoxOk.l0, List.range_succ, bs_get, setAt, ibS, encMail, hi, hm]
      rw [c1] at hm
      by_cases c2 : b.next ≤ b.mails[i].uid
      · simp (maxSteps := 1000000) [impl_BoxOk.l0, List.range_succ, bs_get, setAt, ibS, encMail, hi, hm, c2]
      have c2' : ¬ b.next ≤ b.mails[i].uid := c2
      by_cases c6 : 0 < i
      · have e6 : IntKind.i64.wrap ((i : Int) - 1) = ((i - 1 : Nat) : Int) := by rw [wrap_i64 (by omega) (by omega)]; omega
        by_cases c3 : b.mails[i].uid ≤ b.mails[i - 1].uid
        · simp (maxSteps := 1000000) [impl_BoxOk.l0, List.range_succ, bs_get, setAt, ibS, encMail, hi, hm, c2, c6, c3, e6, (show i - 1 < b.mails.length by omega)]
        by_cases c4 : intO (mailO b.mails b.mails[i].gid) = (i : Int)
        rotate_left
        · simp (maxSteps := 1000000) [impl_BoxOk.l0, List.range_succ, bs_get, setAt, ibS, encMail, hi, hm, c2, c6, c3, e6, (show i - 1 < b.mails.length by omega), ha, c4]
        rw [c4] at ha
        by_cases c5 : b.mails[i].gid ∈ b.gone
        rotate_left
        · simp [c1, c2, c3, c4, c5] at c
        rw [decide_eq_true c5] at hg
        simp (maxSteps := 1000000) [impl_BoxOk.l0, List.range_succ, bs_get, setAt, ibS, encMail, hi, hm, c2, c6, c3, e6, (show i - 1 < b.mails.length by omega), ha, hg]
      · have c3 := c6
        by_cases c4 : intO (mailO b.mails b.mails[i].gid) = (i : Int)
        rotate_left
        · simp (maxSteps := 1000000) [impl_BoxOk.l0, List.range_succ, bs_get, setAt, ibS, encMail, hi, hm, c2, c6, ha, c4]
        rw [c4] at ha
        by_cases c5 : b.mails[i].gid ∈ b.gone
        rotate_left
        · simp [c1, c2, c3, c4, c5] at c
        rw [decide_eq_true c5] at hg
        simp (maxSteps := 1000000) [impl_BoxOk.l0, List.range_succ, bs_get, setAt, ibS, encMail, hi, hm, c2, c6, ha, hg]
theorem impl_BoxOk.says (h : impl_BoxOk.k M) (b : Box) (hml : b.mails.length ≤ 1048576) (hgl : b.gone.length ≤ 4611686018427387904) (hnl : b.name.length ≤ 4611686018427387904) (hw : ∀ m ∈ b.mails, m.flags.length ≤ 1048576) :
    run M 74 [.a (encBox b)] [] = some (.c (.bool (boxOk b)), []) := by
  obtain ⟨h0, hat, hno, hwi, hig, hin, hso, hgo, hmo⟩ := h
  have h1 := impl_isGid.says hig b.gid
  have h2 := impl_NameOk.says hno b.name hnl
  have h3 := impl_StampOk.says hso b.time b.who
  have h4 := impl_within.inR hwi b.next 1 10000
  have h5 := impl_areGids.says hgo b.gone 40 hgl
  refine run_code (b := impl_BoxOk.m) h0 ⟨b.mails.length + 1, ?_⟩
  obtain ⟨g, hr⟩ := early_loop (f := exC (run M) (b.mails.length + 1) impl_BoxOk.l0) b.mails.length (badMail b) (ibS b) 2 (.bool false) 0 (ibSE b)
    (fun i hi x c => impl_BoxOk.good hat hin hmo b hml hgl hw i hi x c)
    (fun i hi x c => impl_BoxOk.bad hat hin hmo b hml hgl hw i hi x c)
    (fun x => by
      obtain ⟨v, x⟩ := x
      simp only [Prod.exists]
      simp (maxSteps := 1000000) [impl_BoxOk.l0, List.range_succ, bs_get, setAt, ibS, ibSE])
  cases c1 : inR 1 b.gid 9999
  · simp (maxSteps := 1000000) [exB, impl_BoxOk.m, impl_BoxOk.b, List.range_succ, bs_get, setAt, h1, c1, boxOk]
  cases c2 : nameOk b.name
  · simp (maxSteps := 1000000) [exB, impl_BoxOk.m, impl_BoxOk.b, List.range_succ, bs_get, setAt, h1, h2, c1, c2, boxOk]
  cases c3 : stampOk b.time b.who
  · simp (maxSteps := 1000000) [exB, impl_BoxOk.m, impl_BoxOk.b, List.range_succ, bs_get, setAt, h1, h2, h3, c1, c2, c3, boxOk]
  cases c4 : inR 1 b.next 10000
  · simp (maxSteps := 1000000) [exB, impl_BoxOk.m, impl_BoxOk.b, List.range_succ, bs_get, setAt, h1, h2, h3, h4, c1, c2, c3, c4, boxOk]
  by_cases c5 : 10 < b.mails.length
  · have c5' : ¬ b.mails.length ≤ 10 := by omega
    have ci : (10 : Int) < b.mails.length := by omega
    simp (maxSteps := 1000000) [exB, impl_BoxOk.m, impl_BoxOk.b, List.range_succ, bs_get, setAt, h1, h2, h3, h4, c1, c2, c3, c4, c5, c5', ci, boxOk]
  have c5' : b.mails.length ≤ 10 := by omega
  have ci : ¬ (10 : Int) < b.mails.length := by omega
  cases c6 : gidsOk b.gone 40
  · simp (maxSteps := 1000000) [exB, impl_BoxOk.m, impl_BoxOk.b, List.range_succ, bs_get, setAt, h1, h2, h3, h4, h5, c1, c2, c3, c4, c5, ci, c6, boxOk]
  cases q : firstN (badMail b) b.mails.length with
  | none =>
    simp [ibS, ibSE, q, fin1] at hr
    simp (maxSteps := 1000000) [exB, impl_BoxOk.m, impl_BoxOk.b, List.range_succ, bs_get, setAt, h1, h2, h3, h4, h5, c1, c2, c3, c4, c5, c5', ci, c6, hr, boxOk, q]
  | some k =>
    simp [ibS, q, fin1] at hr
    simp (maxSteps := 1000000) [exB, impl_BoxOk.m, impl_BoxOk.b, List.range_succ, bs_get, setAt, h1, h2, h3, h4, h5, c1, c2, c3, c4, c5, c5', ci, c6, hr, boxOk, q]
def sbxS (b : Box) (i : Nat) (x : Nat × Nat) : St := { t := [(1, .c (.ptr 1 x.1 0 0)), (3, .c (I i))], o := [(1, ⟨x.1, 7, true, true, [encBox b]⟩)], n := x.2 }
def sbxSE (b : Box) (x : Nat × Nat) : St := { t := [(1, .c (.ptr 1 x.1 0 0)), (3, .c (I b.mails.length)), (43, .c (.bool false))], o := [(1, ⟨x.1, 7, true, true, [encBox b]⟩)], n := x.2 }
theorem spec_BoxOk.good (hat : spec_MailAt.k M) (hin : spec_l06In.k M) (hmo : spec_MailOk.k M) (b : Box) (hml : b.mails.length ≤ 1048576) (hgl : b.gone.length ≤ 4611686018427387904) (hw : ∀ m ∈ b.mails, m.flags.length ≤ 1048576)
    (i : Nat) (hi : i < b.mails.length) (x : Nat × Nat) (c : badMail b i = false) : ∃ y, exC (run M) (b.mails.length + 1) spec_BoxOk.l0 (sbxS b i x) = some (.normal, sbxS b (i + 1) y) := by
      obtain ⟨v, x⟩ := x
      simp only [Prod.exists]
      have hm := spec_MailOk.says hmo b.mails[i] (hw _ (List.getElem_mem hi))
      have ha := spec_MailAt.says hat b b.mails[i].gid hml
      have hg := spec_l06In.says hin b.gone b.mails[i].gid hgl
      simp only [encMail, encBox] at hm ha hg
      rw [badMail_at hi] at c
      simp at c
      obtain ⟨⟨⟨⟨c1, c2⟩, c3⟩, c4⟩, c5⟩ := c
      have e5 := wrap1 (i := i) (by omega)
      rw [c1] at hm
      rw [c4] at ha
      rw [decide_eq_false c5] at hg
      have c2' : ¬ b.next ≤ b.mails[i].uid := by omega
      by_cases c6 : 0 < i
      · have e6 : IntKind.i64.wrap ((i : Int) - 1) = ((i - 1 : Nat) : Int) := by rw [wrap_i64 (by omega) (by omega)]; omega
        have c3' : ¬ b.mails[i].uid ≤ b.mails[i - 1].uid := by have := c3 c6; omega
        simp (maxSteps := 1000000) [spec_BoxOk.l0, List.range_succ, bs_get, setAt, sbxS, encMail, hi, hm, ha, hg, c2', c6, c3', e5, e6, (show i - 1 < b.mails.length by omega)]
      · simp (maxSteps := 1000000) [spec_BoxOk.l0, List.range_succ, bs_get, setAt, sbxS, encMail, hi, hm, ha, hg, c2', c6, e5]
theorem spec_BoxOk.bad (hat : spec_MailAt.k M) (hin : spec_l06In.k M) (hmo : spec_MailOk.k M) (b : Box) (hml : b.mails.length ≤ 1048576) (hgl : b.gone.length ≤ 4611686018427387904) (hw : ∀ m ∈ b.mails, m.flags.length ≤ 1048576)
    (i : Nat) (hi : i < b.mails.length) (x : Nat × Nat) (c : badMail b i = true) : ∃ k, exC (run M) (b.mails.length + 1) spec_BoxOk.l0 (sbxS b i x) = some (.ret, { t := [(2, .c (.bool false))], o := [], n := k }) := by
      obtain ⟨v, x⟩ := x
      have hm := spec_MailOk.says hmo b.mails[i] (hw _ (List.getElem_mem hi))
      have ha := spec_MailAt.says hat b b.mails[i].gid hml
      have hg := spec_l06In.says hin b.gone b.mails[i].gid hgl
      simp only [encMail, encBox] at hm ha hg
      rw [badMail_at hi] at c
      cases c1 : mailOk b.mails[i]
      · rw [c1] at hm
        simp (maxSteps := 1000000) [spec_BoxOk.l0, List.range_succ, bs_get, setAt, sbxS, encMail, hi, hm]
      rw [c1] at hm
      by_cases c2 : b.next ≤ b.mails[i].uid
      · simp (maxSteps := 1000000) [spec_BoxOk.l0, List.range_succ, bs_get, setAt, sbxS, encMail, hi, hm, c2]
      have c2' : ¬ b.next ≤ b.mails[i].uid := c2
      by_cases c6 : 0 < i
      · have e6 : IntKind.i64.wrap ((i : Int) - 1) = ((i - 1 : Nat) : Int) := by rw [wrap_i64 (by omega) (by omega)]; omega
        by_cases c3 : b.mails[i].uid ≤ b.mails[i - 1].uid
        · simp (maxSteps := 1000000) [spec_BoxOk.l0, List.range_succ, bs_get, setAt, sbxS, encMail, hi, hm, c2, c6, c3, e6, (show i - 1 < b.mails.length by omega)]
        by_cases c5 : b.mails[i].gid ∈ b.gone
        · rw [decide_eq_true c5] at hg
          simp (maxSteps := 1000000) [spec_BoxOk.l0, List.range_succ, bs_get, setAt, sbxS, encMail, hi, hm, c2, c6, c3, e6, (show i - 1 < b.mails.length by omega), hg]
        rw [decide_eq_false c5] at hg
        by_cases c4 : intO (mailO b.mails b.mails[i].gid) = (i : Int)
        · simp [c1, c2, c3, c4, c5] at c
        simp (maxSteps := 1000000) [spec_BoxOk.l0, List.range_succ, bs_get, setAt, sbxS, encMail, hi, hm, c2, c6, c3, e6, (show i - 1 < b.mails.length by omega), ha, hg, c4]
      · have c3 := c6
        by_cases c5 : b.mails[i].gid ∈ b.gone
        · rw [decide_eq_true c5] at hg
          simp (maxSteps := 1000000) [spec_BoxOk.l0, List.range_succ, bs_get, setAt, sbxS, encMail, hi, hm, c2, c6, hg]
        rw [decide_eq_false c5] at hg
        by_cases c4 : intO (mailO b.mails b.mails[i].gid) = (i : Int)
        · simp [c1, c2, c3, c4, c5] at c
        simp (maxSteps := 1000000) [spec_BoxOk.l0, List.range_succ, bs_get, setAt, sbxS, encMail, hi, hm, c2, c6, ha, hg, c4]
theorem spec_BoxOk.says (h : spec_BoxOk.k M) (b : Box) (hml : b.mails.length ≤ 1048576) (hgl : b.gone.length ≤ 4611686018427387904) (hnl : b.name.length ≤ 4611686018427387904) (hw : ∀ m ∈ b.mails, m.flags.length ≤ 1048576) :
    run M 88 [.a (encBox b)] [] = some (.c (.bool (boxOk b)), []) := by
  obtain ⟨h0, hno, hat, hwi, hin, hso, hgo, hmo⟩ := h
  have h1 := spec_l01In.inR hwi b.gid 1 9999
  have h2 := spec_NameOk.says hno b.name hnl
  have h3 := spec_StampOk.says hso b.time b.who
  have h4 := spec_l01In.inR hwi b.next 1 10000
  have h5 := spec_l06Sorted.says hgo b.gone 40 hgl
  refine run_code (b := spec_BoxOk.m) h0 ⟨b.mails.length + 1, ?_⟩
  obtain ⟨g, hr⟩ := early_loop (f := exC (run M) (b.mails.length + 1) spec_BoxOk.l0) b.mails.length (badMail b) (sbxS b) 2 (.bool false) 0 (sbxSE b)
    (fun i hi x c => spec_BoxOk.good hat hin hmo b hml hgl hw i hi x c)
    (fun i hi x c => spec_BoxOk.bad hat hin hmo b hml hgl hw i hi x c)
    (fun x => by
      obtain ⟨v, x⟩ := x
      simp only [Prod.exists]
      simp (maxSteps := 1000000) [spec_BoxOk.l0, List.range_succ, bs_get, setAt, sbxS, sbxSE])
  cases c1 : inR 1 b.gid 9999
  · simp (maxSteps := 1000000) [exB, spec_BoxOk.m, spec_BoxOk.b, List.range_succ, bs_get, setAt, h1, c1, boxOk]
  cases c2 : nameOk b.name
  · simp (maxSteps := 1000000) [exB, spec_BoxOk.m, spec_BoxOk.b, List.range_succ, bs_get, setAt, h1, h2, c1, c2, boxOk]
  cases c3 : stampOk b.time b.who
  · simp (maxSteps := 1000000) [exB, spec_BoxOk.m, spec_BoxOk.b, List.range_succ, bs_get, setAt, h1, h2, h3, c1, c2, c3, boxOk]
  cases c4 : inR 1 b.next 10000
  · simp (maxSteps := 1000000) [exB, spec_BoxOk.m, spec_BoxOk.b, List.range_succ, bs_get, setAt, h1, h2, h3, h4, c1, c2, c3, c4, boxOk]
  by_cases c5 : 10 < b.mails.length
  · have c5' : ¬ b.mails.length ≤ 10 := by omega
    have ci : (10 : Int) < b.mails.length := by omega
    simp (maxSteps := 1000000) [exB, spec_BoxOk.m, spec_BoxOk.b, List.range_succ, bs_get, setAt, h1, h2, h3, h4, c1, c2, c3, c4, c5, c5', ci, boxOk]
  have c5' : b.mails.length ≤ 10 := by omega
  have ci : ¬ (10 : Int) < b.mails.length := by omega
  cases c6 : gidsOk b.gone 40
  · simp (maxSteps := 1000000) [exB, spec_BoxOk.m, spec_BoxOk.b, List.range_succ, bs_get, setAt, h1, h2, h3, h4, h5, c1, c2, c3, c4, c5, ci, c6, boxOk]
  cases q : firstN (badMail b) b.mails.length with
  | none =>
    simp [sbxS, sbxSE, q, fin1] at hr
    simp (maxSteps := 1000000) [exB, spec_BoxOk.m, spec_BoxOk.b, List.range_succ, bs_get, setAt, h1, h2, h3, h4, h5, c1, c2, c3, c4, c5, c5', ci, c6, hr, boxOk, q]
  | some k =>
    simp [sbxS, q, fin1] at hr
    simp (maxSteps := 1000000) [exB, spec_BoxOk.m, spec_BoxOk.b, List.range_succ, bs_get, setAt, h1, h2, h3, h4, h5, c1, c2, c3, c4, c5, c5', ci, c6, hr, boxOk, q]
end Mx

namespace Mx
open Go
variable {M : Nat → Option Body}
structure Store where
  who : Int
  time : Int
  boxes : List Box
  gone : List Int
abbrev boxes (l : List Box) : T := .sl false 7 (l.map encBox)
abbrev encStore (s : Store) : List T := [I s.who, I s.time, boxes s.boxes, ints s.gone]
abbrev encStoreO (s : Store) : List T := [I s.who, I s.time, .sl true 7 (s.boxes.map encBox), .sl true 1 (irow s.gone)]
end Mx

namespace Mx
open Go
variable {M : Nat → Option Body}
/-- a place of a list whose thing is so -/
def atP {α : Type} (p : α → Bool) (l : List α) (i : Nat) : Bool := match l[i]? with
  | some x => p x
  | none => false
theorem atP_at {α : Type} {p : α → Bool} {l : List α} {i : Nat} (h : i < l.length) : atP p l i = p l[i] := by simp [atP, h]
theorem firstF_findIdx {α : Type} (p : α → Bool) (l : List α) : ∀ d i, i + d = l.length → firstF (atP p l) d i = ((l.drop i).findIdx? p).map (· + i)
  | 0, i, h => by rw [firstF, List.drop_eq_nil_of_le (by omega)]; rfl
  | d + 1, i, h => by
    have hi : i < l.length := by omega
    rw [firstF, atP_at hi, List.drop_eq_getElem_cons hi, List.findIdx?_cons]
    split
    · simp
    · rw [firstF_findIdx p l d (i + 1) (by omega), Option.map_map]
      congr 1; funext x; simp only [Function.comp]; omega
theorem firstN_findIdx {α : Type} (p : α → Bool) (l : List α) : firstN (atP p l) l.length = l.findIdx? p := by
  rw [firstN, firstF_findIdx p l _ _ (by omega)]; simp
theorem firstN_any {α : Type} (p : α → Bool) (l : List α) : (firstN (atP p l) l.length).isSome = l.any p := by
  rw [firstN_findIdx, List.findIdx?_isSome]
def named (l : List Box) (s : List UInt8) : Option Nat := l.findIdx? fun b => decide (b.name = s)
def bnS (st : Store) (s : List UInt8) (i : Nat) (x : Nat × Nat) : St := { t := [(1, .c (S s)), (2, .c (.ptr 2 x.1 0 0)), (5, .c (I i))], o := [(2, ⟨x.1, 4, true, true, [encStore st]⟩)], n := x.2 }
/-- a loop that answers the first place found -/
def finI {β : Type} (r : Nat) (e : Nat) (E : β → St) (q : Option Nat) (m : β × Nat) : Out × St := match q with
  | none => (.exit e, E m.1)
  | some k => (.ret, { t := [(r, .c (I k))], o := [], n := m.2 })
theorem index_loop {β γ : Type} (n : Nat) (p : Nat → Bool) {f : St → Option (Out × St)} (S : Nat → β → St) (r : Nat) (e : Nat) (E : γ → St) (z : γ)
    (h1 : ∀ i, i < n → ∀ x, p i = false → ∃ y, f (S i x) = some (.normal, S (i + 1) y)) (h2 : ∀ i, i < n → ∀ x, p i = true → ∃ k, f (S i x) = some (.ret, { t := [(r, .c (I i))], o := [], n := k }))
    (h3 : ∀ x, ∃ y, f (S n x) = some (.exit e, E y)) : ∃ g : β → γ × Nat, ∀ x, loopN f (n + 1) (S 0 x) = some (finI r e E (firstN p n) (g x)) :=
  first_loop n p S (finI r e E) (fun q m => by cases q <;> simp [finI]) h1 (fun i hi x c => by
    obtain ⟨k, hk⟩ := h2 i hi x c
    exact ⟨(z, k), hk⟩) (fun x => by
    obtain ⟨y, hy⟩ := h3 x
    exact ⟨(y, 0), hy⟩)
def bnE (st : Store) (s : List UInt8) (x : Nat × Nat) : St := { t := [(1, .c (S s)), (2, .c (.ptr 2 x.1 0 0)), (5, .c (I st.boxes.length)), (10, .c (.bool false))], o := [(2, ⟨x.1, 4, true, true, [encStore st]⟩)], n := x.2 }
theorem spec_BoxNamed.says (h : spec_BoxNamed.k M) (st : Store) (s : List UInt8) (hb : st.boxes.length ≤ 1048576) : run M 226 [.a (encStore st), .c (S s)] [] = some (.c (I (intO (named st.boxes s))), []) := by
  refine run_code (b := spec_BoxNamed.m) h ⟨st.boxes.length + 1, ?_⟩
  obtain ⟨g, hr⟩ := index_loop (f := exC (run M) (st.boxes.length + 1) spec_BoxNamed.l0) st.boxes.length (atP (fun b => decide (b.name = s)) st.boxes) (bnS st s) 4 0 (bnE st s) (0, 0)
    (fun i hi x c => by
      obtain ⟨v, x⟩ := x
      rw [atP_at hi, decide_eq_false_iff_not] at c
      have e5 := wrap1 (i := i) (by omega)
      simp only [Prod.exists]
      simp (maxSteps := 1000000) [spec_BoxNamed.l0, List.range_succ, bs_get, setAt, bnS, hi, c, encBox, e5])
    (fun i hi x c => by
      obtain ⟨v, x⟩ := x
      rw [atP_at hi, decide_eq_true_eq] at c
      simp (maxSteps := 1000000) [spec_BoxNamed.l0, List.range_succ, bs_get, setAt, bnS, hi, c, encBox])
    (fun x => by
      obtain ⟨v, x⟩ := x
      simp only [Prod.exists]
      simp (maxSteps := 1000000) [spec_BoxNamed.l0, List.range_succ, bs_get, setAt, bnS, bnE])
  rw [firstN_findIdx] at hr
  unfold named
  cases hm : st.boxes.findIdx? fun b => decide (b.name = s) with
  | none =>
    simp [bnS, hm, finI, bnE] at hr
    simp (maxSteps := 1000000) [exB, spec_BoxNamed.m, spec_BoxNamed.b, List.range_succ, bs_get, setAt, hr, intO]
  | some k =>
    simp [bnS, hm, finI] at hr
    simp (maxSteps := 1000000) [exB, spec_BoxNamed.m, spec_BoxNamed.b, List.range_succ, bs_get, setAt, hr, intO]
theorem impl_BoxNamed_1.says (h : impl_BoxNamed_1.k M) (b : Box) (s : List UInt8) : run M 271 [.a (encBox b), .c (.vp [S s] 0)] [] = some (.c (.bool (decide (b.name = s))), []) := by
  refine run_code (b := impl_BoxNamed_1.m) h ⟨0, ?_⟩
  simp (maxSteps := 1000000) [exB, impl_BoxNamed_1.m, impl_BoxNamed_1.b, List.range_succ, bs_get, setAt]
def ixbS (l : List Box) (s : List UInt8) (i : Nat) (x : Nat) : St := { t := [(0, .c (boxes l)), (1, .c (.fn 271 [.vp [S s] 0])), (7, .c (I l.length)), (8, .c (I i))], o := [], n := x }
def ixbE (l : List Box) (s : List UInt8) (x : Nat) : St := { t := [(0, .c (boxes l)), (1, .c (.fn 271 [.vp [S s] 0])), (7, .c (I l.length)), (8, .c (I l.length)), (9, .c (.bool false))], o := [], n := x }
theorem impl_BoxNamed.index (h : slices_IndexFunc_impl_Box_impl_Box.k M) (h2 : impl_BoxNamed_1.k M) (l : List Box) (s : List UInt8) (hl : l.length ≤ 1048576) :
    run M 200 [.c (boxes l), .c (.fn 271 [.vp [S s] 0])] [] = some (.c (I (intO (named l s))), []) := by
  refine run_code (b := slices_IndexFunc_impl_Box_impl_Box.m) h ⟨l.length + 1, ?_⟩
  obtain ⟨g, hr⟩ := index_loop (f := exC (run M) (l.length + 1) slices_IndexFunc_impl_Box_impl_Box.l0) l.length (atP (fun b => decide (b.name = s)) l) (ixbS l s) 4 0 (ixbE l s) 0
    (fun i hi x c => by
      have hm := impl_BoxNamed_1.says h2 l[i] s
      rw [atP_at hi] at c
      rw [c] at hm
      simp only [encBox] at hm
      have e5 := wrap1 (i := i) (by omega)
      simp (maxSteps := 1000000) [slices_IndexFunc_impl_Box_impl_Box.l0, List.range_succ, bs_get, setAt, ixbS, hi, hm, encBox, e5])
    (fun i hi x c => by
      have hm := impl_BoxNamed_1.says h2 l[i] s
      rw [atP_at hi] at c
      rw [c] at hm
      simp only [encBox] at hm
      simp (maxSteps := 1000000) [slices_IndexFunc_impl_Box_impl_Box.l0, List.range_succ, bs_get, setAt, ixbS, hi, hm, encBox])
    (fun x => by simp (maxSteps := 1000000) [slices_IndexFunc_impl_Box_impl_Box.l0, List.range_succ, bs_get, setAt, ixbS, ixbE])
  rw [firstN_findIdx] at hr
  unfold named
  cases hm : l.findIdx? fun b => decide (b.name = s) with
  | none =>
    simp [ixbS, hm, finI, ixbE] at hr
    simp (maxSteps := 1000000) [exB, slices_IndexFunc_impl_Box_impl_Box.m, slices_IndexFunc_impl_Box_impl_Box.b, List.range_succ, bs_get, setAt, hr, intO]
  | some k =>
    simp [ixbS, hm, finI] at hr
    simp (maxSteps := 1000000) [exB, slices_IndexFunc_impl_Box_impl_Box.m, slices_IndexFunc_impl_Box_impl_Box.b, List.range_succ, bs_get, setAt, hr, intO]
theorem impl_BoxNamed.says (h : impl_BoxNamed.k M) (st : Store) (s : List UInt8) (hb : st.boxes.length ≤ 1048576) : run M 228 [.a (encStore st), .c (S s)] [] = some (.c (I (intO (named st.boxes s))), []) := by
  have h1 := impl_BoxNamed.index h.2.1 h.2.2 st.boxes s hb
  refine run_code (b := impl_BoxNamed.m) h.1 ⟨0, ?_⟩
  simp (maxSteps := 1000000) [exB, impl_BoxNamed.m, impl_BoxNamed.b, List.range_succ, bs_get, setAt, h1]
def lateM (time : Int) (m : Mail) : Bool := m.flags.any fun r => decide (time < r.time)
def late (b : Box) (time : Int) : Bool := decide (time < b.time) || b.mails.any (lateM time)
def ltS (b : Box) (time : Int) (i : Nat) (x : Nat × Nat) : St := { t := [(1, .c (I time)), (2, .c (.ptr 2 x.1 0 0)), (10, .c (mails b.mails)), (11, .c (I b.mails.length)), (12, .c (I i))], o := [(2, ⟨x.1, 7, true, true, [encBox b]⟩)], n := x.2 }
def ltE (b : Box) (time : Int) (x : Nat × Nat) : St := { t := [(1, .c (I time)), (2, .c (.ptr 2 x.1 0 0)), (10, .c (mails b.mails)), (11, .c (I b.mails.length)), (12, .c (I b.mails.length)), (13, .c (.bool false))], o := [(2, ⟨x.1, 7, true, true, [encBox b]⟩)], n := x.2 }
def lt1S (b : Box) (time : Int) (i : Nat) (l : List Reg) (k : Nat) (x : Nat × Nat) : St := { t := [(1, .c (I time)), (2, .c (.ptr 2 x.1 0 0)), (10, .c (mails b.mails)), (11, .c (I b.mails.length)), (12, .c (I i)), (17, .c (regs l)), (18, .c (I l.length)), (19, .c (I k))], o := [(2, ⟨x.1, 7, true, true, [encBox b]⟩)], n := x.2 }
def lt1E (b : Box) (time : Int) (i : Nat) (l : List Reg) (x : Nat × Nat) : St := { t := [(1, .c (I time)), (2, .c (.ptr 2 x.1 0 0)), (10, .c (mails b.mails)), (11, .c (I b.mails.length)), (12, .c (I i)), (17, .c (regs l)), (18, .c (I l.length)), (19, .c (I l.length)), (20, .c (.bool false))], o := [(2, ⟨x.1, 7, true, true, [encBox b]⟩)], n := x.2 }
theorem any_none {α : Type} {p : α → Bool} {l : List α} (h : l.any p = false) : firstN (atP p l) l.length = none := by
  have := firstN_any p l
  rw [h] at this; simpa using this
theorem any_some {α : Type} {p : α → Bool} {l : List α} (h : l.any p = true) : ∃ k, firstN (atP p l) l.length = some k := by
  have := firstN_any p l
  rw [h] at this; exact Option.isSome_iff_exists.1 this
theorem impl_isLate.inner (b : Box) (time : Int) (i K : Nat) (l : List Reg) (hl : l.length ≤ 1048576) : ∃ g : Nat × Nat → (Nat × Nat) × Nat, ∀ x, loopN (exC (run M) K impl_isLate.l1) (l.length + 1) (lt1S b time i l 0 x) = some (fin1 4 (.bool true) 2 (lt1E b time i l) (firstN (atP (fun r => decide (time < r.time)) l) l.length) (g x)) :=
  early_loop l.length (atP (fun r => decide (time < r.time)) l) (lt1S b time i l) 4 (.bool true) 2 (lt1E b time i l)
    (fun i hi x c => by
      obtain ⟨v, x⟩ := x
      rw [atP_at hi, decide_eq_false_iff_not] at c
      have e5 := wrap1 (i := i) (by omega)
      simp only [Prod.exists]
      simp (maxSteps := 1000000) [impl_isLate.l1, List.range_succ, bs_get, setAt, lt1S, hi, c, encReg, e5])
    (fun i hi x c => by
      obtain ⟨v, x⟩ := x
      rw [atP_at hi, decide_eq_true_eq] at c
      simp (maxSteps := 1000000) [impl_isLate.l1, List.range_succ, bs_get, setAt, lt1S, hi, c, encReg])
    (fun x => by
      obtain ⟨v, x⟩ := x
      simp only [Prod.exists]
      simp (maxSteps := 1000000) [impl_isLate.l1, List.range_succ, bs_get, setAt, lt1S, lt1E])
theorem impl_isLate.says (h : impl_isLate.k M) (b : Box) (time : Int) (hb : b.mails.length ≤ 1048576) (hf : ∀ m ∈ b.mails, m.flags.length ≤ 1048576) : run M 229 [.a (encBox b), .c (I time)] [] = some (.c (.bool (late b time)), []) := by
  refine run_code (b := impl_isLate.m) h ⟨b.mails.length + 1048577, ?_⟩
  obtain ⟨K, hK⟩ : ∃ K, b.mails.length + 1048577 = K := ⟨_, rfl⟩
  rw [hK]
  obtain ⟨g, hr⟩ := early_loop (f := exC (run M) K impl_isLate.l0) b.mails.length (atP (lateM time) b.mails) (ltS b time) 4 (.bool true) 0 (ltE b time)
    (fun i hi x c => by
      obtain ⟨v, x⟩ := x
      rw [atP_at hi, lateM] at c
      have e5 := wrap1 (i := i) (by omega)
      have hfl := hf _ (List.getElem_mem hi)
      obtain ⟨g, hr⟩ := impl_isLate.inner (M := M) b time i K b.mails[i].flags hfl
      rw [any_none c] at hr
      have hr2 := fun x => loopN_le (hr x) (show b.mails[i].flags.length + 1 ≤ K by omega)
      simp [lt1S, lt1E, fin1] at hr2
      simp only [Prod.exists]
      simp (maxSteps := 1000000) [impl_isLate.l0, List.range_succ, bs_get, setAt, ltS, hi, encMail, e5, hr2])
    (fun i hi x c => by
      obtain ⟨v, x⟩ := x
      rw [atP_at hi, lateM] at c
      have hfl := hf _ (List.getElem_mem hi)
      obtain ⟨g, hr⟩ := impl_isLate.inner (M := M) b time i K b.mails[i].flags hfl
      obtain ⟨k, hk⟩ := any_some c
      rw [hk] at hr
      have hr2 := fun x => loopN_le (hr x) (show b.mails[i].flags.length + 1 ≤ K by omega)
      simp [lt1S, fin1] at hr2
      simp (maxSteps := 1000000) [impl_isLate.l0, List.range_succ, bs_get, setAt, ltS, hi, encMail, hr2])
    (fun x => by
      obtain ⟨v, x⟩ := x
      simp only [Prod.exists]
      simp (maxSteps := 1000000) [impl_isLate.l0, List.range_succ, bs_get, setAt, ltS, ltE])
  have hr2 := fun x => loopN_le (hr x) (show b.mails.length + 1 ≤ K by omega)
  unfold late
  cases c : b.mails.any (lateM time)
  · rw [any_none c] at hr2
    simp [ltS, ltE, fin1] at hr2
    simp (maxSteps := 1000000) [exB, impl_isLate.m, impl_isLate.b, List.range_succ, bs_get, setAt, hr2]
  · obtain ⟨k, hk⟩ := any_some c
    rw [hk] at hr2
    simp [ltS, fin1] at hr2
    simp (maxSteps := 1000000) [exB, impl_isLate.m, impl_isLate.b, List.range_succ, bs_get, setAt, hr2]
def st0S (b : Box) (time : Int) (i : Nat) (x : Nat × Nat) : St := { t := [(1, .c (I time)), (2, .c (.ptr 2 x.1 0 0)), (5, .c (I i))], o := [(2, ⟨x.1, 7, true, true, [encBox b]⟩)], n := x.2 }
def st0E (b : Box) (time : Int) (x : Nat × Nat) : St := { t := [(1, .c (I time)), (2, .c (.ptr 2 x.1 0 0)), (5, .c (I b.mails.length)), (16, .c (.bool false))], o := [(2, ⟨x.1, 7, true, true, [encBox b]⟩)], n := x.2 }
def st1S (b : Box) (time : Int) (i : Nat) (k : Nat) (x : Nat × Nat) : St := { t := [(1, .c (I time)), (2, .c (.ptr 2 x.1 0 0)), (5, .c (I i)), (6, .c (I k))], o := [(2, ⟨x.1, 7, true, true, [encBox b]⟩)], n := x.2 }
def st1E (b : Box) (time : Int) (i : Nat) (k : Nat) (x : Nat × Nat) : St := { t := [(1, .c (I time)), (2, .c (.ptr 2 x.1 0 0)), (5, .c (I i)), (6, .c (I k)), (27, .c (.bool false))], o := [(2, ⟨x.1, 7, true, true, [encBox b]⟩)], n := x.2 }
theorem spec_l07Times.inner (b : Box) (time : Int) (i K : Nat) (hi : i < b.mails.length) (hl : b.mails[i].flags.length ≤ 1048576) : ∃ g : Nat × Nat → (Nat × Nat) × Nat, ∀ x, loopN (exC (run M) K spec_l07Times.l1) (b.mails[i].flags.length + 1) (st1S b time i 0 x) = some (fin1 4 (.bool false) 2 (st1E b time i b.mails[i].flags.length) (firstN (atP (fun r => decide (time < r.time)) b.mails[i].flags) b.mails[i].flags.length) (g x)) :=
  early_loop b.mails[i].flags.length (atP (fun r => decide (time < r.time)) b.mails[i].flags) (st1S b time i) 4 (.bool false) 2 (st1E b time i b.mails[i].flags.length)
    (fun k hk x c => by
      obtain ⟨v, x⟩ := x
      rw [atP_at hk, decide_eq_false_iff_not] at c
      have e5 := wrap1 (i := k) (by omega)
      simp only [Prod.exists]
      simp (maxSteps := 1000000) [spec_l07Times.l1, List.range_succ, bs_get, setAt, st1S, hi, hk, c, encReg, encMail, e5])
    (fun k hk x c => by
      obtain ⟨v, x⟩ := x
      rw [atP_at hk, decide_eq_true_eq] at c
      simp (maxSteps := 1000000) [spec_l07Times.l1, List.range_succ, bs_get, setAt, st1S, hi, hk, c, encReg, encMail])
    (fun x => by
      obtain ⟨v, x⟩ := x
      simp only [Prod.exists]
      simp (maxSteps := 1000000) [spec_l07Times.l1, List.range_succ, bs_get, setAt, st1S, st1E, hi, encMail])
theorem spec_l07Times.says (h : spec_l07Times.k M) (b : Box) (time : Int) (hb : b.mails.length ≤ 1048576) (hf : ∀ m ∈ b.mails, m.flags.length ≤ 1048576) : run M 227 [.a (encBox b), .c (I time)] [] = some (.c (.bool (!late b time)), []) := by
  refine run_code (b := spec_l07Times.m) h ⟨b.mails.length + 1048577, ?_⟩
  obtain ⟨K, hK⟩ : ∃ K, b.mails.length + 1048577 = K := ⟨_, rfl⟩
  rw [hK]
  obtain ⟨g, hr⟩ := early_loop (f := exC (run M) K spec_l07Times.l0) b.mails.length (atP (lateM time) b.mails) (st0S b time) 4 (.bool false) 0 (st0E b time)
    (fun i hi x c => by
      obtain ⟨v, x⟩ := x
      rw [atP_at hi, lateM] at c
      have e5 := wrap1 (i := i) (by omega)
      have hfl := hf _ (List.getElem_mem hi)
      obtain ⟨g, hr⟩ := spec_l07Times.inner (M := M) b time i K hi hfl
      rw [any_none c] at hr
      have hr2 := fun x => loopN_le (hr x) (show b.mails[i].flags.length + 1 ≤ K by omega)
      simp [st1S, st1E, fin1] at hr2
      simp only [Prod.exists]
      simp (maxSteps := 1000000) [spec_l07Times.l0, List.range_succ, bs_get, setAt, st0S, hi, encMail, e5, hr2])
    (fun i hi x c => by
      obtain ⟨v, x⟩ := x
      rw [atP_at hi, lateM] at c
      have hfl := hf _ (List.getElem_mem hi)
      obtain ⟨g, hr⟩ := spec_l07Times.inner (M := M) b time i K hi hfl
      obtain ⟨k, hk⟩ := any_some c
      rw [hk] at hr
      have hr2 := fun x => loopN_le (hr x) (show b.mails[i].flags.length + 1 ≤ K by omega)
      simp [st1S, fin1] at hr2
      simp (maxSteps := 1000000) [spec_l07Times.l0, List.range_succ, bs_get, setAt, st0S, hi, encMail, hr2])
    (fun x => by
      obtain ⟨v, x⟩ := x
      simp only [Prod.exists]
      simp (maxSteps := 1000000) [spec_l07Times.l0, List.range_succ, bs_get, setAt, st0S, st0E])
  have hr2 := fun x => loopN_le (hr x) (show b.mails.length + 1 ≤ K by omega)
  unfold late
  by_cases c0 : time < b.time
  · simp (maxSteps := 1000000) [exB, spec_l07Times.m, spec_l07Times.b, List.range_succ, bs_get, setAt, c0]
  cases c : b.mails.any (lateM time)
  · rw [any_none c] at hr2
    simp [st0S, st0E, fin1] at hr2
    simp (maxSteps := 1000000) [exB, spec_l07Times.m, spec_l07Times.b, List.range_succ, bs_get, setAt, hr2, c0]
  · obtain ⟨k, hk⟩ := any_some c
    rw [hk] at hr2
    simp [st0S, fin1] at hr2
    simp (maxSteps := 1000000) [exB, spec_l07Times.m, spec_l07Times.b, List.range_succ, bs_get, setAt, hr2, c0]
end Mx

namespace Mx
open Go
variable {M : Nat → Option Body}
def gidsOf (b : Box) : List Int := b.mails.map (·.gid)
def seenAt (s : Store) (i : Nat) : List Int := (s.boxes.take i).flatMap gidsOf
theorem seenAt_succ {s : Store} {i : Nat} (h : i < s.boxes.length) : seenAt s (i + 1) = seenAt s i ++ gidsOf s.boxes[i] := by
  rw [seenAt, seenAt, List.take_succ_eq_append_getElem h, List.flatMap_append]; simp
def dupAt (seen l : List Int) (k : Nat) : Bool := match l[k]? with
  | some g => decide (g ∈ seen ++ l.take k)
  | none => false
theorem dupAt_at {seen l : List Int} {k : Nat} (h : k < l.length) : dupAt seen l k = decide (l[k] ∈ seen ++ l.take k) := by simp [dupAt, h]
def dups (seen l : List Int) : Bool := (firstN (dupAt seen l) l.length).isSome
def badBox (s : Store) (i : Nat) : Bool := match s.boxes[i]? with
  | some b => !boxOk b || (decide (0 < i) && match s.boxes[i - 1]? with | some p => decide (b.gid ≤ p.gid) | none => false) || !decide (intO (named s.boxes b.name) = (i : Int)) || decide (b.gid ∈ s.gone) || late b s.time
  | none => false
theorem badBox_at {s : Store} {i : Nat} (h : i < s.boxes.length) : badBox s i = (!boxOk s.boxes[i] || (decide (0 < i) && decide (s.boxes[i].gid ≤ s.boxes[i - 1].gid)) || !decide (intO (named s.boxes s.boxes[i].name) = (i : Int)) ||
    decide (s.boxes[i].gid ∈ s.gone) || late s.boxes[i] s.time) := by simp [badBox, h, (show i - 1 < s.boxes.length by omega)]
def badAt (s : Store) (i : Nat) : Bool := badBox s i || match s.boxes[i]? with
  | some b => dups (seenAt s i) (gidsOf b)
  | none => false
theorem badAt_at {s : Store} {i : Nat} (h : i < s.boxes.length) : badAt s i = (badBox s i || dups (seenAt s i) (gidsOf s.boxes[i])) := by simp [badAt, h]
def storeOk (s : Store) : Bool := inR 1 s.who 2 && inR 0 s.time 100000 && decide (s.boxes.length ≤ 5) && gidsOk s.gone 20 && (firstN (badAt s) s.boxes.length).isNone
/-- small enough to be walked -/
structure BoxIn (b : Box) : Prop where
  m : b.mails.length ≤ 1048576
  g : b.gone.length ≤ 1048576
  n : b.name.length ≤ 1048576
  f : ∀ m ∈ b.mails, m.flags.length ≤ 1048576
structure StoreIn (s : Store) : Prop where
  b : s.boxes.length ≤ 1048576
  g : s.gone.length ≤ 1048576
  i : ∀ b ∈ s.boxes, BoxIn b
  s : (s.boxes.flatMap gidsOf).length ≤ 1048576
theorem seenAt_le {s : Store} (h : StoreIn s) (i : Nat) : (seenAt s i).length ≤ 1048576 := by
  refine Nat.le_trans ?_ h.s
  conv => rhs; rw [← List.take_append_drop i s.boxes]
  rw [List.flatMap_append, List.length_append]
  exact Nat.le_add_right _ _
def soO (s : Store) (seen : List Int) (x : Nat × Nat × Nat) : List (Nat × Ob) := [(1, ⟨x.1, 4, true, true, [encStore s]⟩), (30, ⟨x.2.1, 1, true, false, irow seen⟩)]
def so0S (s : Store) (i : Nat) (x : Nat × Nat × Nat) : St := { t := [(1, .c (.ptr 1 x.1 0 0)), (3, .c (.row 30 x.2.1 0 (seenAt s i).length)), (32, .c (boxes s.boxes)), (33, .c (I s.boxes.length)), (34, .c (I i))], o := soO s (seenAt s i) x, n := x.2.2 }
def so0E (s : Store) (x : Nat × Nat × Nat) : St := { t := [(1, .c (.ptr 1 x.1 0 0)), (3, .c (.row 30 x.2.1 0 (seenAt s s.boxes.length).length)), (32, .c (boxes s.boxes)), (33, .c (I s.boxes.length)), (34, .c (I s.boxes.length)), (35, .c (.bool false))], o := soO s (seenAt s s.boxes.length) x, n := x.2.2 }
def so1S (s : Store) (b : Box) (seen : List Int) (i k : Nat) (x : Nat × Nat × Nat) : St := { t := [(1, .c (.ptr 1 x.1 0 0)), (3, .c (.row 30 x.2.1 0 (seen.length + k))), (32, .c (boxes s.boxes)), (33, .c (I s.boxes.length)), (34, .c (I i)), (80, .c (mails b.mails)), (81, .c (I b.mails.length)), (82, .c (I k))], o := soO s (seen ++ (gidsOf b).take k) x, n := x.2.2 }
def so1E (s : Store) (b : Box) (seen : List Int) (i : Nat) (x : Nat × Nat × Nat) : St := { t := [(1, .c (.ptr 1 x.1 0 0)), (3, .c (.row 30 x.2.1 0 (seen.length + b.mails.length))), (32, .c (boxes s.boxes)), (33, .c (I s.boxes.length)), (34, .c (I i)), (80, .c (mails b.mails)), (81, .c (I b.mails.length)), (82, .c (I b.mails.length)), (83, .c (.bool false))], o := soO s (seen ++ gidsOf b) x, n := x.2.2 }
theorem gidsOf_len (b : Box) : (gidsOf b).length = b.mails.length := by simp [gidsOf]
theorem gidsOf_at (b : Box) (k : Nat) (h : k < (gidsOf b).length) : (gidsOf b)[k] = (b.mails[k]'(by simpa [gidsOf] using h)).gid := by simp [gidsOf]
theorem impl_StoreOk.inner (hin : slices_Contains_int_int.k M) (s : Store) (b : Box) (seen : List Int) (i K : Nat) (hl : b.mails.length ≤ 1048576) (hs : seen.length ≤ 1048576) :
    ∃ g : Nat × Nat × Nat → (Nat × Nat × Nat) × Nat, ∀ x, loopN (exC (run M) K impl_StoreOk.l1) (b.mails.length + 1) (so1S s b seen i 0 x) = some (fin1 2 (.bool false) 2 (so1E s b seen i) (firstN (dupAt seen (gidsOf b)) b.mails.length) (g x)) :=
  early_loop b.mails.length (dupAt seen (gidsOf b)) (so1S s b seen i) 2 (.bool false) 2 (so1E s b seen i)
    (fun k hk x c => by
      obtain ⟨v, w, x⟩ := x
      have hk' : k < (gidsOf b).length := by rw [gidsOf_len]; exact hk
      rw [dupAt_at hk'] at c
      have hlen : (seen ++ (gidsOf b).take k).length = seen.length + k := by rw [List.length_append, List.length_take, Nat.min_eq_left (by omega)]
      have h1 := slices_Contains_int_int.says hin (seen ++ (gidsOf b).take k) (gidsOf b)[k] (by rw [hlen]; omega)
      rw [c] at h1
      rw [gidsOf_at] at h1
      simp only [ints] at h1
      have e5 := wrap1 (i := k) (by omega)
      have e6 : seen.length + (k + 1) ≤ 4294967296 := by omega
      have e7 : seen ++ (gidsOf b).take (k + 1) = (seen ++ (gidsOf b).take k) ++ [b.mails[k].gid] := by rw [List.take_succ_eq_append_getElem hk', gidsOf_at, List.append_assoc]
      have e8 : irow ((seen ++ (gidsOf b).take k) ++ [b.mails[k].gid]) = irow (seen ++ (gidsOf b).take k) ++ [[I b.mails[k].gid]] := by simp [irow]
      have e9 : (irow (seen ++ (gidsOf b).take k)).length = seen.length + k := by simp only [irow, List.length_map]; exact hlen
      simp only [Prod.exists, so1S, soO, e7, e8]
      generalize irow (seen ++ (gidsOf b).take k) = rr at *
      simp (maxSteps := 1000000) [impl_StoreOk.l1, List.range_succ, bs_get, setAt, hk, h1, encMail, e5, e6, e9, List.take_of_length_le, Nat.add_assoc])
    (fun k hk x c => by
      obtain ⟨v, w, x⟩ := x
      have hk' : k < (gidsOf b).length := by rw [gidsOf_len]; exact hk
      rw [dupAt_at hk'] at c
      have hlen : (seen ++ (gidsOf b).take k).length = seen.length + k := by rw [List.length_append, List.length_take, Nat.min_eq_left (by omega)]
      have h1 := slices_Contains_int_int.says hin (seen ++ (gidsOf b).take k) (gidsOf b)[k] (by rw [hlen]; omega)
      rw [c] at h1
      rw [gidsOf_at] at h1
      simp only [ints] at h1
      have e9 : (irow (seen ++ (gidsOf b).take k)).length = seen.length + k := by simp only [irow, List.length_map]; exact hlen
      simp only [so1S, soO]
      generalize irow (seen ++ (gidsOf b).take k) = rr at *
      simp (maxSteps := 1000000) [impl_StoreOk.l1, List.range_succ, bs_get, setAt, hk, h1, encMail, e9, List.take_of_length_le])
    (fun x => by
      obtain ⟨v, w, x⟩ := x
      have e7 : (gidsOf b).take b.mails.length = gidsOf b := List.take_of_length_le (by rw [gidsOf_len]; omega)
      simp only [Prod.exists, so1S, so1E, soO, e7]
      simp (maxSteps := 1000000) [impl_StoreOk.l1, List.range_succ, bs_get, setAt])
theorem BoxIn.ok {b : Box} (h : BoxIn b) : b.mails.length ≤ 1048576 ∧ b.gone.length ≤ 4611686018427387904 ∧ b.name.length ≤ 4611686018427387904 ∧ ∀ m ∈ b.mails, m.flags.length ≤ 1048576 := ⟨h.m, by have := h.g; omega, by have := h.n; omega, h.f⟩
structure impl_StoreOk.ks (M : Nat → Option Body) : Prop where
  box : impl_BoxOk.k M
  con : slices_Contains_int_int.k M
  nam : impl_BoxNamed.k M
  lat : impl_isLate.k M
theorem impl_StoreOk.good (h : impl_StoreOk.ks M) (s : Store) (hs : StoreIn s) (K : Nat) (hK : 2000000 ≤ K) (i : Nat) (hi : i < s.boxes.length) (x : Nat × Nat × Nat) (c : badAt s i = false) :
    ∃ y, exC (run M) K impl_StoreOk.l0 (so0S s i x) = some (.normal, so0S s (i + 1) y) := by
  have hb := hs.i _ (List.getElem_mem hi)
  have h1 := impl_BoxOk.says h.box s.boxes[i] hb.ok.1 hb.ok.2.1 hb.ok.2.2.1 hb.ok.2.2.2
  have h2 := impl_BoxNamed.says h.nam s s.boxes[i].name hs.b
  have h3 := slices_Contains_int_int.says h.con s.gone s.boxes[i].gid (by have := hs.g; omega)
  have h4 := impl_isLate.says h.lat s.boxes[i] s.time hb.m hb.f
  have hsl := seenAt_le hs i
  obtain ⟨g, hr⟩ := impl_StoreOk.inner h.con s s.boxes[i] (seenAt s i) i K hb.m hsl
  have hr2 := fun x => loopN_le (hr x) (show s.boxes[i].mails.length + 1 ≤ K by have := hb.m; omega)
  rw [badAt_at hi, badBox_at hi] at c
  simp only [Bool.or_eq_false_iff, Bool.and_eq_false_iff, Bool.not_eq_false', decide_eq_false_iff_not, decide_eq_true_eq] at c
  obtain ⟨⟨⟨⟨⟨c1, c2⟩, c3⟩, c4⟩, c5⟩, c6⟩ := c
  have e5 : IntKind.i64.wrap ((i : Int) + 1) = (i : Int) + 1 := wrap_i64 (by have := hs.b; omega) (by have := hs.b; omega)
  rw [c1] at h1
  rw [c3] at h2
  rw [decide_eq_false c4] at h3
  rw [c5] at h4
  have q : firstN (dupAt (seenAt s i) (gidsOf s.boxes[i])) s.boxes[i].mails.length = none := by
    unfold dups at c6; rw [gidsOf_len] at c6; simpa using c6
  rw [q] at hr2
  obtain ⟨v, w, x⟩ := x
  simp only [encBox, encStore] at h1 h2 h4
  simp only [ints] at h3
  have hz : irow (seenAt s i ++ gidsOf s.boxes[i]) = irow (seenAt s i) ++ irow (gidsOf s.boxes[i]) := by simp [irow]
  simp [so1S, so1E, soO, fin1] at hr2
  simp only [so0S, soO, seenAt_succ hi, Prod.exists]
  have hgl := gidsOf_len s.boxes[i]
  by_cases c7 : 0 < i
  · have e6 : IntKind.i64.wrap ((i : Int) - 1) = ((i - 1 : Nat) : Int) := by rw [wrap_i64 (by have := hs.b; omega) (by have := hs.b; omega)]; omega
    have c2' : ¬ s.boxes[i].gid ≤ s.boxes[i - 1].gid := by
      rcases c2 with c2 | c2
      · exact absurd c7 c2
      · exact c2
    simp (maxSteps := 1000000) [impl_StoreOk.l0, List.range_succ, bs_get, setAt, hi, h1, h2, h3, h4, c7, c2', e5, e6, hr2, hgl, encBox, (show i - 1 < s.boxes.length by omega)]
  · simp (maxSteps := 1000000) [impl_StoreOk.l0, List.range_succ, bs_get, setAt, hi, h1, h2, h3, h4, c7, e5, hr2, hgl, encBox]
theorem impl_StoreOk.bad (h : impl_StoreOk.ks M) (s : Store) (hs : StoreIn s) (K : Nat) (hK : 2000000 ≤ K) (i : Nat) (hi : i < s.boxes.length) (x : Nat × Nat × Nat) (c : badAt s i = true) :
    ∃ k, exC (run M) K impl_StoreOk.l0 (so0S s i x) = some (.ret, { t := [(2, .c (.bool false))], o := [], n := k }) := by
  have hb := hs.i _ (List.getElem_mem hi)
  have h1 := impl_BoxOk.says h.box s.boxes[i] hb.ok.1 hb.ok.2.1 hb.ok.2.2.1 hb.ok.2.2.2
  have h2 := impl_BoxNamed.says h.nam s s.boxes[i].name hs.b
  have h3 := slices_Contains_int_int.says h.con s.gone s.boxes[i].gid (by have := hs.g; omega)
  have h4 := impl_isLate.says h.lat s.boxes[i] s.time hb.m hb.f
  have hsl := seenAt_le hs i
  obtain ⟨g, hr⟩ := impl_StoreOk.inner h.con s s.boxes[i] (seenAt s i) i K hb.m hsl
  have hr2 := fun x => loopN_le (hr x) (show s.boxes[i].mails.length + 1 ≤ K by have := hb.m; omega)
  rw [badAt_at hi, badBox_at hi] at c
  obtain ⟨v, w, x⟩ := x
  simp only [encBox, encStore] at h1 h2 h4
  simp only [ints] at h3
  simp only [so0S, soO]
  cases c1 : boxOk s.boxes[i]
  · rw [c1] at h1
    simp (maxSteps := 1000000) [impl_StoreOk.l0, List.range_succ, bs_get, setAt, hi, h1, encBox]
  rw [c1] at h1
  have tail : ∀ (hp : ¬ 0 < i ∨ ¬ s.boxes[i].gid ≤ s.boxes[i - 1].gid), ∃ k, exC (run M) K impl_StoreOk.l0 { t := [(1, .c (.ptr 1 v 0 0)), (3, .c (.row 30 w 0 (seenAt s i).length)), (32, .c (boxes s.boxes)), (33, .c (I s.boxes.length)), (34, .c (I i))], o := [(1, ⟨v, 4, true, true, [encStore s]⟩), (30, ⟨w, 1, true, false, irow (seenAt s i)⟩)], n := x } = some (.ret, { t := [(2, .c (.bool false))], o := [], n := k }) := by
    intro hp
    have hpp : (decide (0 < i) && decide (s.boxes[i].gid ≤ s.boxes[i - 1].gid)) = false := by
      rcases hp with hp | hp <;> simp [hp]
    have key : (∀ (Q : Prop), (0 < i → ¬ s.boxes[i].gid ≤ s.boxes[i - 1].gid → Q) → (¬ 0 < i → Q) → Q) := by
      intro Q q1 q2
      by_cases c7 : 0 < i
      · rcases hp with hp | hp
        · exact absurd c7 hp
        · exact q1 c7 hp
      · exact q2 c7
    have e6 : 0 < i → IntKind.i64.wrap ((i : Int) - 1) = ((i - 1 : Nat) : Int) := fun c7 => by rw [wrap_i64 (by have := hs.b; omega) (by have := hs.b; omega)]; omega
    have hi1 : i - 1 < s.boxes.length := by omega
    by_cases c3 : intO (named s.boxes s.boxes[i].name) = (i : Int)
    rotate_left
    · exact key _ (fun c7 c2 => by simp (maxSteps := 1000000) [impl_StoreOk.l0, List.range_succ, bs_get, setAt, hi, h1, h2, c7, c2, c3, e6 c7, encBox, hi1]) (fun c7 => by simp (maxSteps := 1000000) [impl_StoreOk.l0, List.range_succ, bs_get, setAt, hi, h1, h2, c7, c3, encBox])
    rw [c3] at h2
    by_cases c4 : s.boxes[i].gid ∈ s.gone
    · rw [decide_eq_true c4] at h3
      exact key _ (fun c7 c2 => by simp (maxSteps := 1000000) [impl_StoreOk.l0, List.range_succ, bs_get, setAt, hi, h1, h2, h3, c7, c2, c3, e6 c7, encBox, hi1]) (fun c7 => by simp (maxSteps := 1000000) [impl_StoreOk.l0, List.range_succ, bs_get, setAt, hi, h1, h2, h3, c7, c3, encBox])
    rw [decide_eq_false c4] at h3
    cases c5 : late s.boxes[i] s.time
    rotate_left
    · rw [c5] at h4
      exact key _ (fun c7 c2 => by simp (maxSteps := 1000000) [impl_StoreOk.l0, List.range_succ, bs_get, setAt, hi, h1, h2, h3, h4, c7, c2, c3, e6 c7, encBox, hi1]) (fun c7 => by simp (maxSteps := 1000000) [impl_StoreOk.l0, List.range_succ, bs_get, setAt, hi, h1, h2, h3, h4, c7, c3, encBox])
    rw [c5] at h4
    have c6 : dups (seenAt s i) (gidsOf s.boxes[i]) = true := by
      rw [c1, hpp, c3, c5] at c
      simpa [c4] using c
    obtain ⟨k, hk⟩ : ∃ k, firstN (dupAt (seenAt s i) (gidsOf s.boxes[i])) s.boxes[i].mails.length = some k := by
      unfold dups at c6; rw [gidsOf_len] at c6; exact Option.isSome_iff_exists.1 c6
    rw [hk] at hr2
    simp [so1S, soO, fin1] at hr2
    have hgl := gidsOf_len s.boxes[i]
    exact key _ (fun c7 c2 => by simp (maxSteps := 1000000) [impl_StoreOk.l0, List.range_succ, bs_get, setAt, hi, h1, h2, h3, h4, c7, c2, c3, e6 c7, hr2, encBox, hi1]) (fun c7 => by simp (maxSteps := 1000000) [impl_StoreOk.l0, List.range_succ, bs_get, setAt, hi, h1, h2, h3, h4, c7, c3, hr2, encBox])
  by_cases c7 : 0 < i
  · by_cases c2 : s.boxes[i].gid ≤ s.boxes[i - 1].gid
    · have e6 : IntKind.i64.wrap ((i : Int) - 1) = ((i - 1 : Nat) : Int) := by rw [wrap_i64 (by have := hs.b; omega) (by have := hs.b; omega)]; omega
      simp (maxSteps := 1000000) [impl_StoreOk.l0, List.range_succ, bs_get, setAt, hi, h1, c7, c2, e6, encBox, (show i - 1 < s.boxes.length by omega)]
    · exact tail (.inr c2)
  · exact tail (.inl c7)
theorem impl_StoreOk.says (h : impl_StoreOk.k M) (s : Store) (hs : StoreIn s) : run M 150 [.a (encStore s)] [] = some (.c (.bool (storeOk s)), []) := by
  obtain ⟨h0, k1, k2, k3, k4, k5, k6⟩ := h
  have h1 := impl_within.inR k2 s.who 1 2
  have h2 := impl_within.inR k2 s.time 0 100000
  have h3 := impl_areGids.says k4 s.gone 20 (by have := hs.g; omega)
  refine run_code (b := impl_StoreOk.m) h0 ⟨4000000, ?_⟩
  obtain ⟨K, hK⟩ : ∃ K, 4000000 = K := ⟨_, rfl⟩
  rw [hK]
  obtain ⟨g, hr⟩ := early_loop (f := exC (run M) K impl_StoreOk.l0) s.boxes.length (badAt s) (so0S s) 2 (.bool false) 0 (so0E s)
    (fun i hi x c => impl_StoreOk.good ⟨k1, k3, k5, k6⟩ s hs K (by omega) i hi x c)
    (fun i hi x c => impl_StoreOk.bad ⟨k1, k3, k5, k6⟩ s hs K (by omega) i hi x c)
    (fun x => by
      obtain ⟨v, w, x⟩ := x
      simp only [Prod.exists]
      simp (maxSteps := 1000000) [impl_StoreOk.l0, List.range_succ, bs_get, setAt, so0S, so0E, soO])
  have hr2 := fun x => loopN_le (hr x) (show s.boxes.length + 1 ≤ K by have := hs.b; omega)
  cases c1 : inR 1 s.who 2
  · simp (maxSteps := 1000000) [exB, impl_StoreOk.m, impl_StoreOk.b, List.range_succ, bs_get, setAt, h1, c1, storeOk]
  cases c2 : inR 0 s.time 100000
  · simp (maxSteps := 1000000) [exB, impl_StoreOk.m, impl_StoreOk.b, List.range_succ, bs_get, setAt, h1, h2, c1, c2, storeOk]
  by_cases c3 : 5 < s.boxes.length
  · have c3' : ¬ s.boxes.length ≤ 5 := by omega
    have ci : (5 : Int) < s.boxes.length := by omega
    simp (maxSteps := 1000000) [exB, impl_StoreOk.m, impl_StoreOk.b, List.range_succ, bs_get, setAt, h1, h2, c1, c2, c3', ci, storeOk]
  have c3' : s.boxes.length ≤ 5 := by omega
  have ci : ¬ (5 : Int) < s.boxes.length := by omega
  cases c4 : gidsOk s.gone 20
  · simp (maxSteps := 1000000) [exB, impl_StoreOk.m, impl_StoreOk.b, List.range_succ, bs_get, setAt, h1, h2, h3, c1, c2, ci, c4, storeOk]
  have hz : seenAt s 0 = [] := by simp [seenAt]
  cases q : firstN (badAt s) s.boxes.length with
  | none =>
    simp [so0S, so0E, soO, q, fin1, hz, irow] at hr2
    simp (maxSteps := 1000000) [exB, impl_StoreOk.m, impl_StoreOk.b, List.range_succ, bs_get, setAt, h1, h2, h3, c1, c2, c3', ci, c4, hr2, storeOk, q]
  | some k =>
    simp [so0S, soO, q, fin1, hz, irow] at hr2
    simp (maxSteps := 1000000) [exB, impl_StoreOk.m, impl_StoreOk.b, List.range_succ, bs_get, setAt, h1, h2, h3, c1, c2, c3', ci, c4, hr2, storeOk, q]
def spO (s : Store) (seen : List Int) (x : Nat × Nat × Nat) : List (Nat × Ob) := [(1, ⟨x.1, 4, true, true, [encStore s]⟩), (29, ⟨x.2.1, 1, true, false, irow seen⟩)]
def sp0S (s : Store) (i : Nat) (x : Nat × Nat × Nat) : St := { t := [(1, .c (.ptr 1 x.1 0 0)), (3, .c (.row 29 x.2.1 0 (seenAt s i).length)), (4, .c (I i))], o := spO s (seenAt s i) x, n := x.2.2 }
def sp0E (s : Store) (x : Nat × Nat × Nat) : St := { t := [(1, .c (.ptr 1 x.1 0 0)), (3, .c (.row 29 x.2.1 0 (seenAt s s.boxes.length).length)), (4, .c (I s.boxes.length)), (34, .c (.bool false))], o := spO s (seenAt s s.boxes.length) x, n := x.2.2 }
def sp1O (s : Store) (b : Box) (seen : List Int) (x : Nat × Nat × Nat × Nat) : List (Nat × Ob) := [(1, ⟨x.1, 4, true, true, [encStore s]⟩), (5, ⟨x.2.2.1, 7, true, true, [encBox b]⟩), (29, ⟨x.2.1, 1, true, false, irow seen⟩)]
def sp1S (s : Store) (b : Box) (seen : List Int) (i k : Nat) (x : Nat × Nat × Nat × Nat) : St := { t := [(1, .c (.ptr 1 x.1 0 0)), (3, .c (.row 29 x.2.1 0 (seen.length + k))), (4, .c (I i)), (5, .c (.ptr 5 x.2.2.1 0 0)), (6, .c (I k))], o := sp1O s b (seen ++ (gidsOf b).take k) x, n := x.2.2.2 }
def sp1E (s : Store) (b : Box) (seen : List Int) (i : Nat) (x : Nat × Nat × Nat × Nat) : St := { t := [(1, .c (.ptr 1 x.1 0 0)), (3, .c (.row 29 x.2.1 0 (seen.length + b.mails.length))), (4, .c (I i)), (5, .c (.ptr 5 x.2.2.1 0 0)), (6, .c (I b.mails.length)), (87, .c (.bool false))], o := sp1O s b (seen ++ gidsOf b) x, n := x.2.2.2 }
theorem spec_StoreOk.inner (hin : spec_l06In.k M) (s : Store) (b : Box) (seen : List Int) (i K : Nat) (hl : b.mails.length ≤ 1048576) (hs : seen.length ≤ 1048576) :
    ∃ g : Nat × Nat × Nat × Nat → (Nat × Nat × Nat × Nat) × Nat, ∀ x, loopN (exC (run M) K spec_StoreOk.l1) (b.mails.length + 1) (sp1S s b seen i 0 x) = some (fin1 2 (.bool false) 2 (sp1E s b seen i) (firstN (dupAt seen (gidsOf b)) b.mails.length) (g x)) :=
  early_loop b.mails.length (dupAt seen (gidsOf b)) (sp1S s b seen i) 2 (.bool false) 2 (sp1E s b seen i)
    (fun k hk x c => by
      obtain ⟨v, w, z, x⟩ := x
      have hk' : k < (gidsOf b).length := by rw [gidsOf_len]; exact hk
      rw [dupAt_at hk'] at c
      have hlen : (seen ++ (gidsOf b).take k).length = seen.length + k := by rw [List.length_append, List.length_take, Nat.min_eq_left (by omega)]
      have h1 := spec_l06In.says hin (seen ++ (gidsOf b).take k) (gidsOf b)[k] (by rw [hlen]; omega)
      rw [c] at h1
      rw [gidsOf_at] at h1
      simp only [ints] at h1
      have e5 := wrap1 (i := k) (by omega)
      have e6 : seen.length + (k + 1) ≤ 4294967296 := by omega
      have e7 : seen ++ (gidsOf b).take (k + 1) = (seen ++ (gidsOf b).take k) ++ [b.mails[k].gid] := by rw [List.take_succ_eq_append_getElem hk', gidsOf_at, List.append_assoc]
      have e8 : irow ((seen ++ (gidsOf b).take k) ++ [b.mails[k].gid]) = irow (seen ++ (gidsOf b).take k) ++ [[I b.mails[k].gid]] := by simp [irow]
      have e9 : (irow (seen ++ (gidsOf b).take k)).length = seen.length + k := by simp only [irow, List.length_map]; exact hlen
      simp only [Prod.exists, sp1S, sp1O, e7, e8]
      generalize irow (seen ++ (gidsOf b).take k) = rr at *
      simp (maxSteps := 1000000) [spec_StoreOk.l1, List.range_succ, bs_get, setAt, hk, h1, encMail, e5, e6, e9, List.take_of_length_le, Nat.add_assoc]
      exact ⟨_, _, _, ⟨rfl, rfl, rfl⟩, rfl, rfl, rfl⟩)
    (fun k hk x c => by
      obtain ⟨v, w, z, x⟩ := x
      have hk' : k < (gidsOf b).length := by rw [gidsOf_len]; exact hk
      rw [dupAt_at hk'] at c
      have hlen : (seen ++ (gidsOf b).take k).length = seen.length + k := by rw [List.length_append, List.length_take, Nat.min_eq_left (by omega)]
      have h1 := spec_l06In.says hin (seen ++ (gidsOf b).take k) (gidsOf b)[k] (by rw [hlen]; omega)
      rw [c] at h1
      rw [gidsOf_at] at h1
      simp only [ints] at h1
      have e9 : (irow (seen ++ (gidsOf b).take k)).length = seen.length + k := by simp only [irow, List.length_map]; exact hlen
      simp only [sp1S, sp1O]
      generalize irow (seen ++ (gidsOf b).take k) = rr at *
      simp (maxSteps := 1000000) [spec_StoreOk.l1, List.range_succ, bs_get, setAt, hk, h1, encMail, e9, List.take_of_length_le])
    (fun x => by
      obtain ⟨v, w, z, x⟩ := x
      have e7 : (gidsOf b).take b.mails.length = gidsOf b := List.take_of_length_le (by rw [gidsOf_len]; omega)
      simp only [Prod.exists, sp1S, sp1E, sp1O, e7]
      simp (maxSteps := 1000000) [spec_StoreOk.l1, List.range_succ, bs_get, setAt]
      exact ⟨_, _, _, ⟨rfl, rfl, rfl⟩, rfl, rfl, rfl⟩)
structure spec_StoreOk.ks (M : Nat → Option Body) : Prop where
  box : spec_BoxOk.k M
  con : spec_l06In.k M
  nam : spec_BoxNamed.k M
  lat : spec_l07Times.k M
theorem spec_StoreOk.good (h : spec_StoreOk.ks M) (s : Store) (hs : StoreIn s) (K : Nat) (hK : 2000000 ≤ K) (i : Nat) (hi : i < s.boxes.length) (x : Nat × Nat × Nat) (c : badAt s i = false) :
    ∃ y, exC (run M) K spec_StoreOk.l0 (sp0S s i x) = some (.normal, sp0S s (i + 1) y) := by
  have hb := hs.i _ (List.getElem_mem hi)
  have h1 := spec_BoxOk.says h.box s.boxes[i] hb.ok.1 hb.ok.2.1 hb.ok.2.2.1 hb.ok.2.2.2
  have h2 := spec_BoxNamed.says h.nam s s.boxes[i].name hs.b
  have h3 := spec_l06In.says h.con s.gone s.boxes[i].gid (by have := hs.g; omega)
  have h4 := spec_l07Times.says h.lat s.boxes[i] s.time hb.m hb.f
  have hsl := seenAt_le hs i
  obtain ⟨g, hr⟩ := spec_StoreOk.inner h.con s s.boxes[i] (seenAt s i) i K hb.m hsl
  have hr2 := fun x => loopN_le (hr x) (show s.boxes[i].mails.length + 1 ≤ K by have := hb.m; omega)
  rw [badAt_at hi, badBox_at hi] at c
  simp only [Bool.or_eq_false_iff, Bool.and_eq_false_iff, Bool.not_eq_false', decide_eq_false_iff_not, decide_eq_true_eq] at c
  obtain ⟨⟨⟨⟨⟨c1, c2⟩, c3⟩, c4⟩, c5⟩, c6⟩ := c
  have e5 : IntKind.i64.wrap ((i : Int) + 1) = (i : Int) + 1 := wrap_i64 (by have := hs.b; omega) (by have := hs.b; omega)
  rw [c1] at h1
  rw [c3] at h2
  rw [decide_eq_false c4] at h3
  rw [c5] at h4
  have q : firstN (dupAt (seenAt s i) (gidsOf s.boxes[i])) s.boxes[i].mails.length = none := by
    unfold dups at c6; rw [gidsOf_len] at c6; simpa using c6
  rw [q] at hr2
  obtain ⟨v, w, x⟩ := x
  simp only [encBox, encStore] at h1 h2 h4
  simp only [ints] at h3
  have hz : irow (seenAt s i ++ gidsOf s.boxes[i]) = irow (seenAt s i) ++ irow (gidsOf s.boxes[i]) := by simp [irow]
  simp [sp1S, sp1E, sp1O, fin1] at hr2
  simp only [sp0S, spO, seenAt_succ hi, Prod.exists]
  have hgl := gidsOf_len s.boxes[i]
  by_cases c7 : 0 < i
  · have e6 : IntKind.i64.wrap ((i : Int) - 1) = ((i - 1 : Nat) : Int) := by rw [wrap_i64 (by have := hs.b; omega) (by have := hs.b; omega)]; omega
    have c2' : ¬ s.boxes[i].gid ≤ s.boxes[i - 1].gid := by
      rcases c2 with c2 | c2
      · exact absurd c7 c2
      · exact c2
    simp (maxSteps := 1000000) [spec_StoreOk.l0, List.range_succ, bs_get, setAt, hi, h1, h2, h3, h4, c7, c2', e5, e6, hr2, hgl, encBox, (show i - 1 < s.boxes.length by omega)]
  · simp (maxSteps := 1000000) [spec_StoreOk.l0, List.range_succ, bs_get, setAt, hi, h1, h2, h3, h4, c7, e5, hr2, hgl, encBox]
theorem spec_StoreOk.bad (h : spec_StoreOk.ks M) (s : Store) (hs : StoreIn s) (K : Nat) (hK : 2000000 ≤ K) (i : Nat) (hi : i < s.boxes.length) (x : Nat × Nat × Nat) (c : badAt s i = true) :
    ∃ k, exC (run M) K spec_StoreOk.l0 (sp0S s i x) = some (.ret, { t := [(2, .c (.bool false))], o := [], n := k }) := by
  have hb := hs.i _ (List.getElem_mem hi)
  have h1 := spec_BoxOk.says h.box s.boxes[i] hb.ok.1 hb.ok.2.1 hb.ok.2.2.1 hb.ok.2.2.2
  have h2 := spec_BoxNamed.says h.nam s s.boxes[i].name hs.b
  have h3 := spec_l06In.says h.con s.gone s.boxes[i].gid (by have := hs.g; omega)
  have h4 := spec_l07Times.says h.lat s.boxes[i] s.time hb.m hb.f
  have hsl := seenAt_le hs i
  obtain ⟨g, hr⟩ := spec_StoreOk.inner h.con s s.boxes[i] (seenAt s i) i K hb.m hsl
  have hr2 := fun x => loopN_le (hr x) (show s.boxes[i].mails.length + 1 ≤ K by have := hb.m; omega)
  rw [badAt_at hi, badBox_at hi] at c
  obtain ⟨v, w, x⟩ := x
  simp only [encBox, encStore] at h1 h2 h4
  simp only [ints] at h3
  simp only [sp0S, spO]
  cases c1 : boxOk s.boxes[i]
  · rw [c1] at h1
    simp (maxSteps := 1000000) [spec_StoreOk.l0, List.range_succ, bs_get, setAt, hi, h1, encBox]
  rw [c1] at h1
  have tail : ∀ (hp : ¬ 0 < i ∨ ¬ s.boxes[i].gid ≤ s.boxes[i - 1].gid), ∃ k, exC (run M) K spec_StoreOk.l0 { t := [(1, .c (.ptr 1 v 0 0)), (3, .c (.row 29 w 0 (seenAt s i).length)), (4, .c (I i))], o := [(1, ⟨v, 4, true, true, [encStore s]⟩), (29, ⟨w, 1, true, false, irow (seenAt s i)⟩)], n := x } = some (.ret, { t := [(2, .c (.bool false))], o := [], n := k }) := by
    intro hp
    have hpp : (decide (0 < i) && decide (s.boxes[i].gid ≤ s.boxes[i - 1].gid)) = false := by
      rcases hp with hp | hp <;> simp [hp]
    have key : (∀ (Q : Prop), (0 < i → ¬ s.boxes[i].gid ≤ s.boxes[i - 1].gid → Q) → (¬ 0 < i → Q) → Q) := by
      intro Q q1 q2
      by_cases c7 : 0 < i
      · rcases hp with hp | hp
        · exact absurd c7 hp
        · exact q1 c7 hp
      · exact q2 c7
    have e6 : 0 < i → IntKind.i64.wrap ((i : Int) - 1) = ((i - 1 : Nat) : Int) := fun c7 => by rw [wrap_i64 (by have := hs.b; omega) (by have := hs.b; omega)]; omega
    have hi1 : i - 1 < s.boxes.length := by omega
    by_cases c3 : intO (named s.boxes s.boxes[i].name) = (i : Int)
    rotate_left
    · exact key _ (fun c7 c2 => by simp (maxSteps := 1000000) [spec_StoreOk.l0, List.range_succ, bs_get, setAt, hi, h1, h2, c7, c2, c3, e6 c7, encBox, hi1]) (fun c7 => by simp (maxSteps := 1000000) [spec_StoreOk.l0, List.range_succ, bs_get, setAt, hi, h1, h2, c7, c3, encBox])
    rw [c3] at h2
    by_cases c4 : s.boxes[i].gid ∈ s.gone
    · rw [decide_eq_true c4] at h3
      exact key _ (fun c7 c2 => by simp (maxSteps := 1000000) [spec_StoreOk.l0, List.range_succ, bs_get, setAt, hi, h1, h2, h3, c7, c2, c3, e6 c7, encBox, hi1]) (fun c7 => by simp (maxSteps := 1000000) [spec_StoreOk.l0, List.range_succ, bs_get, setAt, hi, h1, h2, h3, c7, c3, encBox])
    rw [decide_eq_false c4] at h3
    cases c5 : late s.boxes[i] s.time
    rotate_left
    · rw [c5] at h4
      exact key _ (fun c7 c2 => by simp (maxSteps := 1000000) [spec_StoreOk.l0, List.range_succ, bs_get, setAt, hi, h1, h2, h3, h4, c7, c2, c3, e6 c7, encBox, hi1]) (fun c7 => by simp (maxSteps := 1000000) [spec_StoreOk.l0, List.range_succ, bs_get, setAt, hi, h1, h2, h3, h4, c7, c3, encBox])
    rw [c5] at h4
    have c6 : dups (seenAt s i) (gidsOf s.boxes[i]) = true := by
      rw [c1, hpp, c3, c5] at c
      simpa [c4] using c
    obtain ⟨k, hk⟩ : ∃ k, firstN (dupAt (seenAt s i) (gidsOf s.boxes[i])) s.boxes[i].mails.length = some k := by
      unfold dups at c6; rw [gidsOf_len] at c6; exact Option.isSome_iff_exists.1 c6
    rw [hk] at hr2
    simp [sp1S, sp1O, fin1] at hr2
    have hgl := gidsOf_len s.boxes[i]
    exact key _ (fun c7 c2 => by simp (maxSteps := 1000000) [spec_StoreOk.l0, List.range_succ, bs_get, setAt, hi, h1, h2, h3, h4, c7, c2, c3, e6 c7, hr2, encBox, hi1]) (fun c7 => by simp (maxSteps := 1000000) [spec_StoreOk.l0, List.range_succ, bs_get, setAt, hi, h1, h2, h3, h4, c7, c3, hr2, encBox])
  by_cases c7 : 0 < i
  · by_cases c2 : s.boxes[i].gid ≤ s.boxes[i - 1].gid
    · have e6 : IntKind.i64.wrap ((i : Int) - 1) = ((i - 1 : Nat) : Int) := by rw [wrap_i64 (by have := hs.b; omega) (by have := hs.b; omega)]; omega
      simp (maxSteps := 1000000) [spec_StoreOk.l0, List.range_succ, bs_get, setAt, hi, h1, c7, c2, e6, encBox, (show i - 1 < s.boxes.length by omega)]
    · exact tail (.inr c2)
  · exact tail (.inl c7)
theorem spec_StoreOk.says (h : spec_StoreOk.k M) (s : Store) (hs : StoreIn s) : run M 149 [.a (encStore s)] [] = some (.c (.bool (storeOk s)), []) := by
  obtain ⟨h0, k1, k2, k3, k4, k5, k6⟩ := h
  have h1 := spec_l01In.inR k2 s.who 1 2
  have h2 := spec_l01In.inR k2 s.time 0 100000
  have h3 := spec_l06Sorted.says k4 s.gone 20 (by have := hs.g; omega)
  refine run_code (b := spec_StoreOk.m) h0 ⟨4000000, ?_⟩
  obtain ⟨K, hK⟩ : ∃ K, 4000000 = K := ⟨_, rfl⟩
  rw [hK]
  obtain ⟨g, hr⟩ := early_loop (f := exC (run M) K spec_StoreOk.l0) s.boxes.length (badAt s) (sp0S s) 2 (.bool false) 0 (sp0E s)
    (fun i hi x c => spec_StoreOk.good ⟨k1, k3, k5, k6⟩ s hs K (by omega) i hi x c)
    (fun i hi x c => spec_StoreOk.bad ⟨k1, k3, k5, k6⟩ s hs K (by omega) i hi x c)
    (fun x => by
      obtain ⟨v, w, x⟩ := x
      simp only [Prod.exists]
      simp (maxSteps := 1000000) [spec_StoreOk.l0, List.range_succ, bs_get, setAt, sp0S, sp0E, spO])
  have hr2 := fun x => loopN_le (hr x) (show s.boxes.length + 1 ≤ K by have := hs.b; omega)
  cases c1 : inR 1 s.who 2
  · simp (maxSteps := 1000000) [exB, spec_StoreOk.m, spec_StoreOk.b, List.range_succ, bs_get, setAt, h1, c1, storeOk]
  cases c2 : inR 0 s.time 100000
  · simp (maxSteps := 1000000) [exB, spec_StoreOk.m, spec_StoreOk.b, List.range_succ, bs_get, setAt, h1, h2, c1, c2, storeOk]
  by_cases c3 : 5 < s.boxes.length
  · have c3' : ¬ s.boxes.length ≤ 5 := by omega
    have ci : (5 : Int) < s.boxes.length := by omega
    simp (maxSteps := 1000000) [exB, spec_StoreOk.m, spec_StoreOk.b, List.range_succ, bs_get, setAt, h1, h2, c1, c2, c3', ci, storeOk]
  have c3' : s.boxes.length ≤ 5 := by omega
  have ci : ¬ (5 : Int) < s.boxes.length := by omega
  cases c4 : gidsOk s.gone 20
  · simp (maxSteps := 1000000) [exB, spec_StoreOk.m, spec_StoreOk.b, List.range_succ, bs_get, setAt, h1, h2, h3, c1, c2, ci, c4, storeOk]
  have hz : seenAt s 0 = [] := by simp [seenAt]
  cases q : firstN (badAt s) s.boxes.length with
  | none =>
    simp [sp0S, sp0E, spO, q, fin1, hz, irow] at hr2
    simp (maxSteps := 1000000) [exB, spec_StoreOk.m, spec_StoreOk.b, List.range_succ, bs_get, setAt, h1, h2, h3, c1, c2, c3', ci, c4, hr2, storeOk, q]
  | some k =>
    simp [sp0S, spO, q, fin1, hz, irow] at hr2
    simp (maxSteps := 1000000) [exB, spec_StoreOk.m, spec_StoreOk.b, List.range_succ, bs_get, setAt, h1, h2, h3, c1, c2, c3', ci, c4, hr2, storeOk, q]
end Mx

namespace Mx
open Go
variable {M : Nat → Option Body}
theorem inR_iff {a n b : Int} : inR a n b = true ↔ a ≤ n ∧ n ≤ b := by simp [inR]
def isVar (n : Int) : Prop := 0 ≤ n ∧ n ≤ 1000000000
theorem flagsOk_regs {l : List Reg} (h : flagsOk l = true) : l.length = 3 ∧ ∀ r ∈ l, regOk r = true := by
  simp only [flagsOk, Bool.and_eq_true, decide_eq_true_eq, Option.isNone_iff_eq_none, firstN_isNone] at h
  refine ⟨h.2, fun r hr => ?_⟩
  obtain ⟨i, hi, e⟩ := List.getElem_of_mem hr
  have := h.1 i hi
  rw [badFlag_at hi, e] at this
  simp at this
  exact this.1
theorem mailOk_vars {m : Mail} (h : mailOk m = true) : isVar m.gid ∧ isVar m.uid ∧ m.flags.length = 3 ∧ (∀ r ∈ m.flags, regOk r = true) ∧ m.text.length ≤ 60 := by
  simp only [mailOk, Bool.and_eq_true, inR_iff, decide_eq_true_eq] at h
  have hf := flagsOk_regs h.1.2
  exact ⟨⟨by omega, by omega⟩, ⟨by omega, by omega⟩, hf.1, hf.2, h.2⟩
theorem stampOk_vars {t w : Int} (h : stampOk t w = true) : isVar t ∧ isVar w := by
  simp only [stampOk, Bool.and_eq_true, inR_iff] at h
  unfold isVar; omega
theorem gidsOk_vars {l : List Int} {most : Int} (h : gidsOk l most = true) : (l.length : Int) ≤ most ∧ ∀ n ∈ l, 1 ≤ n ∧ n ≤ 9999 := by
  simp only [gidsOk, Bool.and_eq_true, decide_eq_true_eq, Option.isNone_iff_eq_none, firstN_isNone] at h
  refine ⟨h.2, fun r hr => ?_⟩
  obtain ⟨i, hi, e⟩ := List.getElem_of_mem hr
  have := h.1 i hi
  rw [badGid_at hi, e] at this
  simp at this
  exact inR_iff.1 this.1
theorem nameOk_len {l : List UInt8} (h : nameOk l = true) : 1 ≤ l.length ∧ l.length ≤ 12 := by
  simp only [nameOk, Bool.and_eq_true, inR_iff] at h
  omega
theorem boxOk_vars {b : Box} (h : boxOk b = true) : isVar b.gid ∧ b.name.length ≤ 12 ∧ isVar b.time ∧ isVar b.who ∧ isVar b.next ∧ b.mails.length ≤ 10 ∧ b.gone.length ≤ 40 ∧ (∀ n ∈ b.gone, isVar n) ∧ ∀ m ∈ b.mails, mailOk m = true := by
  simp only [boxOk, Bool.and_eq_true, decide_eq_true_eq, Option.isNone_iff_eq_none, firstN_isNone, inR_iff] at h
  obtain ⟨⟨⟨⟨⟨⟨h1, h2⟩, h3⟩, h4⟩, h5⟩, h6⟩, h7⟩ := h
  have hn := nameOk_len h2
  have hs := stampOk_vars h3
  have hg := gidsOk_vars h6
  refine ⟨⟨by omega, by omega⟩, hn.2, hs.1, hs.2, ⟨by omega, by omega⟩, h5, by omega, fun n hn => ⟨by have := hg.2 n hn; omega, by have := hg.2 n hn; omega⟩, fun m hm => ?_⟩
  obtain ⟨i, hi, e⟩ := List.getElem_of_mem hm
  have := h7 i hi
  rw [badMail_at hi, e] at this
  simp at this
  exact this.1.1.1.1
end Mx

namespace Mx
open Go
variable {M : Nat → Option Body}
theorem wrap_one : IntKind.i64.wrap 1 = 1 := wrap_i64 (by omega) (by omega)
abbrev bzero : List T := [I 0, .str ⟨#[]⟩, I 0, I 0, I 0, .nils 4, .nils 1]
abbrev mzero : List T := [I 0, I 0, .nils 3, .str ⟨#[]⟩]
structure Four where
  a : Nat
  b : Nat
  c : Nat
  d : Nat
theorem Four.ex {p : Four → Prop} : (∃ x, p x) ↔ ∃ a b c d, p ⟨a, b, c, d⟩ := ⟨fun ⟨⟨a, b, c, d⟩, h⟩ => ⟨a, b, c, d, h⟩, fun ⟨a, b, c, d, h⟩ => ⟨⟨a, b, c, d⟩, h⟩⟩
end Mx

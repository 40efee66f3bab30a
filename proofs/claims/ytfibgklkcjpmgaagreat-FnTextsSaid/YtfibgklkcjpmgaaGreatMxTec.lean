/-
  What more of the functions compute, each by a small evaluation; no condition beyond what each says.
-/
import Derived.Lib.SlicesCompact
import Derived.Test.YtfibgklkcjpmgaaGreatMxTeb
set_option linter.unusedSimpArgs false
set_option linter.unusedVariables false
namespace Mx
open Go
def spec_l04Copy.b : C := .seq (.reg [Q 2 (.nil 3)] [0] [])
  (.seq (.reg [Q 3 (.bslice 3 0 [.int .i64 0, .int .i64 0, .int .i64 0] []), Qm 4 0, Q 5 (.app 3 24 (.t 3) (.t 4)), Qm 2 5] [2] [2,3,5])
  (.ret))
def spec_l04Copy.m : Fn := { np := 1, body := spec_l04Copy.b, res := [.tmp 2] }
def spec_l04Copy.k (M : Nat → Option Body) : Prop := M 241 = some (.code spec_l04Copy.m)
def spec_l05Copy.b : C := .seq (.reg [Qv 1 0, Q 2 (.alloc [.int .i64 0, .int .i64 0, .nils 3, .str ⟨#[]⟩])] [1,2] [1,2,10500])
  (.seq (.reg [Qf 3 2 1, Ql 4 3, Q 5 (.call 241 [.t 4] [] [(0, 10500)]), Qf 6 2 1, Qs 1 6 5] [1,2] [1,2,10500])
  (.seq (.reg [QL 7 4 1, Qs 4 2 7] [2] [2,10500])
  (.ret)))
def spec_l05Copy.m : Fn := { np := 1, body := spec_l05Copy.b, res := [.cell 2 true 4] }
def spec_l05Copy.k (M : Nat → Option Body) : Prop := M 238 = some (.code spec_l05Copy.m) ∧ spec_l04Copy.k M
def spec_l06Copy.l0 : C := .seq (.seq (.reg [Qm 8 4, Qf 9 5 1, Ql 10 9, Q 11 (.len (.t 10)), Q 12 (.bin .lss (.t 8) (.t 11))] [1,2,3,4,12] [1,2,3,6,24,26,29])
  (.cond (.t 12) (.skip) (.exit 0)))
  (.seq (.block 1 (.regd [Qf 15 5 3, Ql 16 15, Qf 17 5 1, Ql 18 17, Qm 19 4, Qa 20 4 18 19, QL 21 4 20, Q 22 (.call 238 [.t 21] [] []),
    Q 23 (.bslice 4 1 [.int .i64 0, .int .i64 0, .nils 3, .str ⟨#[]⟩] [(0, .t 22)]), Q 24 (.app 4 56 (.t 16) (.t 23)), Qf 25 5 3, Qs 1 25 24] [[], [0], [], [2], [], [2,3,4], [2,3,4,5], [2,3,4,5,6], [2,3,4,5,6,7], lr 9, lr 10, lr 11] [1,2,3,4] [1,2,3,6,24,26,29]))
  (.reg [Qm 13 4, Q 14 (.bin .add (.t 13) (kI 1)), Qm 4 14] [1,2,3,4] [1,2,3,6,24,26,29]))
def spec_l06Copy.b : C := .seq (.reg [Qv 1 0, Q 2 (.alloc [.int .i64 0, .str ⟨#[]⟩, .int .i64 0, .int .i64 0, .int .i64 0, .nils 4, .nils 1])] [1,2] [1,2,6,24,26,29])
  (.seq (.reg [QL 5 7 1, Q 3 (.alloc [.int .i64 0, .str ⟨#[]⟩, .int .i64 0, .int .i64 0, .int .i64 0, .nils 4, .nils 1]), Qs 7 3 5] [1,2,3] [1,2,3,6,24,26,29])
  (.seq (.reg [Q 6 (.bslice 4 0 [.int .i64 0, .int .i64 0, .nils 3, .str ⟨#[]⟩] []), Qf 7 5 3, Qs 1 7 6] [1,2,3] [1,2,3,6,24,26,29])
  (.seq (.seq (.reg [Qi 4 0] [1,2,3,4] [1,2,3,6,24,26,29])
  (.block 0 (.loop spec_l06Copy.l0)))
  (.seq (.reg [Q 26 (.bslice 1 0 [.int .i64 0] []), Qf 27 6 1, Ql 28 27, Q 29 (.app 1 8 (.t 26) (.t 28)), Qf 30 6 3, Qs 1 30 29] [2,3] [2,3,6,24,26,29])
  (.seq (.reg [QL 31 7 3, Qs 7 2 31] [2] [2,6,24,26,29])
  (.ret))))))
def spec_l06Copy.m : Fn := { np := 1, body := spec_l06Copy.b, res := [.cell 2 true 7] }
def spec_l06Copy.k (M : Nat → Option Body) : Prop := M 180 = some (.code spec_l06Copy.m) ∧ spec_l05Copy.k M
def spec_FlagsNew.l0 : C := .seq (.seq (.reg [Qm 9 6, Q 10 (.bin .lss (.t 9) (kI 3))] [0,3,5,6,10] [3,8,24])
  (.cond (.t 10) (.skip) (.exit 0)))
  (.seq (.block 1 (.seq (.reg [Qi 7 0] [0,3,5,6,7] [3,8,24])
  (.seq (.seq (.reg [Qm 13 0, Qm 14 6, Q 15 (.i2i .u64 (.t 14)), Q 16 (.bin .shr (.t 13) (.t 15)), Q 17 (.bin .rem (.t 16) (kI 2)), Q 18 (.bin .neq (.t 17) (kI 0))] [0,3,5,6,7,18] [3,8,24])
  (.cond (.t 18) (.reg [Qi 7 1] [0,3,5,6,7] [3,8,24]) (.skip)))
  (.reg [Qm 19 5, Qm 20 7, QL 21 2 3, Q 22 (.build [.int .i64 0, .int .i64 0, .int .i64 0] [(0, 1, .t 20), (1, 2, .t 21)]),
    Q 23 (.bslice 3 1 [.int .i64 0, .int .i64 0, .int .i64 0] [(0, .t 22)]), Q 24 (.app 3 24 (.t 19) (.t 23)), Qm 5 24] [0,3,5,6] [3,8,24]))))
  (.reg [Qm 11 6, Q 12 (.bin .add (.t 11) (kI 1)), Qm 6 12] [0,3,5,6] [3,8,24]))
def spec_FlagsNew.b : C := .seq (.reg [Qv 3 1, Q 4 (.nil 3)] [0,3] [3])
  (.seq (.reg [Q 8 (.bslice 3 0 [.int .i64 0, .int .i64 0, .int .i64 0] []), Qm 5 8] [0,3,5] [3,8,24])
  (.seq (.seq (.reg [Qi 6 0] [0,3,5,6] [3,8,24])
  (.block 0 (.loop spec_FlagsNew.l0)))
  (.seq (.reg [Qm 25 5, Qm 4 25] [4] [4,8,24])
  (.ret))))
def spec_FlagsNew.m : Fn := { np := 2, body := spec_FlagsNew.b, res := [.tmp 4] }
def spec_FlagsNew.k (M : Nat → Option Body) : Prop := M 181 = some (.code spec_FlagsNew.m)
def spec_AddMail.b : C := .seq (.reg [Qv 5 0, Qv 9 4, Q 10 (.alloc [.int .i64 0, .str ⟨#[]⟩, .int .i64 0, .int .i64 0, .int .i64 0, .nils 4, .nils 1]), Qb 11 false] [1,2,3,5,9,10] [5,9,10,47,11405,11406,15705,15706])
  (.seq (.reg [QL 13 7 5, Q 14 (.call 180 [.t 13] [] [(5, 11405), (6, 11406)]), Q 12 (.alloc [.int .i64 0, .str ⟨#[]⟩, .int .i64 0, .int .i64 0, .int .i64 0, .nils 4, .nils 1]), Qs 7 12 14] [1,2,3,5,9,10,12] [5,9,10,12,47,11405,11406,15705,15706])
  (.seq (.seq (.reg [QL 15 7 5, Q 16 (.call 88 [.t 15] [] []), Q 17 (.not (.t 16)), Qm 18 17, Qg 19 (.load true 7 (.t 5)) 18 false, Qg 20 (.mv (.t 1)) 18 false,
    Qg 21 (.call 91 [.t 19, .t 20] [] []) 18 false, Qg 22 (.bin .geq (.t 21) (kI 0)) 18 false, Q 23 (.pick (.t 18) (kB true) (.t 22)), Qm 24 23, Qg 25 (.faddr 6 (.t 5)) 24 false,
    Qg 26 (.load false 1 (.t 25)) 24 false, Qg 27 (.mv (.t 1)) 24 false, Qg 28 (.call 132 [.t 26, .t 27] [] []) 24 false, Q 29 (.pick (.t 24) (kB true) (.t 28)), Qm 30 29,
    Qg 31 (.mv (.t 2)) 30 false, Qg 32 (.call 98 [.t 31, kI 0, kI 7] [] []) 30 false, Qg 33 (.not (.t 32)) 30 false, Q 34 (.pick (.t 30) (kB true) (.t 33))] [1,2,3,5,9,10,12,34] [5,9,10,12,47,11405,11406,15705,15706])
  (.cond (.t 34) (.seq (.reg [QL 35 7 12, Qs 7 10 35, Qb 11 false] [10,11] [10,47,11405,11406,15705,15706])
  (.ret)) (.skip)))
  (.seq (.regd [Qf 36 5 12, Ql 37 36, Qm 38 1, Qf 39 4 5, Ql 40 39, Qm 41 2, QL 42 2 9, Q 43 (.call 181 [.t 41, .t 42] [] []), Qm 44 3,
    Q 45 (.build [.int .i64 0, .int .i64 0, .nils 3, .str ⟨#[]⟩] [(0, 1, .t 38), (1, 1, .t 40), (2, 1, .t 43), (3, 1, .t 44)]),
    Q 46 (.bslice 4 1 [.int .i64 0, .int .i64 0, .nils 3, .str ⟨#[]⟩] [(0, .t 45)]), Q 47 (.app 4 56 (.t 37) (.t 46)), Qf 48 5 12, Qs 1 48 47] [[], [0], [], [], [3], [], [], [5,6], [], [2,3,4,5,6,7,8], [2,3,4,5,6,7,8,9], lr 11, lr 12, lr 13] [5,10,12] [5,10,12,47,11405,11406,15705,15706])
  (.seq (.reg [Qf 49 4 5, Ql 50 49, Q 51 (.bin .add (.t 50) (kI 1)), Qf 52 4 12, Qs 1 52 51] [5,10,12] [5,10,12,47,11405,11406,15705,15706])
  (.seq (.seq (.reg [QL 53 7 12, Q 54 (.call 88 [.t 53] [] []), Q 55 (.not (.t 54))] [5,10,12,55] [5,10,12,47,11405,11406,15705,15706])
  (.cond (.t 55) (.seq (.reg [QL 56 7 5, Q 57 (.call 180 [.t 56] [] [(5, 15705), (6, 15706)]), Qs 7 10 57, Qb 11 false] [10,11] [10,47,11405,11406,15705,15706])
  (.ret)) (.skip)))
  (.seq (.reg [QL 58 7 12, Qs 7 10 58, Qb 11 true] [10,11] [10,47,11405,11406,15705,15706])
  (.ret)))))))
def spec_AddMail.m : Fn := { np := 5, body := spec_AddMail.b, res := [.cell 10 true 7, .tmp 11] }
def spec_AddMail.k (M : Nat → Option Body) : Prop := M 81 = some (.code spec_AddMail.m) ∧ spec_BoxOk.k M ∧ spec_MailAt.k M ∧ spec_l01In.k M ∧ spec_l06In.k M ∧ spec_l06Copy.k M ∧ spec_FlagsNew.k M
def spec_Later.b : C := .seq (.reg [Qv 2 0, Qv 3 1, Qb 4 false] [2,3] [2,3])
  (.seq (.seq (.reg [Qf 5 0 2, Ql 6 5, Qf 7 0 3, Ql 8 7, Q 9 (.bin .neq (.t 6) (.t 8))] [2,3,9] [2,3])
  (.cond (.t 9) (.seq (.reg [Qf 10 0 2, Ql 11 10, Qf 12 0 3, Ql 13 12, Q 14 (.bin .gtr (.t 11) (.t 13)), Qm 4 14] [4] [])
  (.ret)) (.skip)))
  (.seq (.reg [Qf 15 1 2, Ql 16 15, Qf 17 1 3, Ql 18 17, Q 19 (.bin .gtr (.t 16) (.t 18)), Qm 4 19] [4] [])
  (.ret)))
def spec_Later.m : Fn := { np := 2, body := spec_Later.b, res := [.tmp 4] }
def spec_Later.k (M : Nat → Option Body) : Prop := M 277 = some (.code spec_Later.m)
def spec_PutReg.b : C := .seq (.reg [Qv 3 0, Qv 5 2, Q 6 (.alloc [.int .i64 0, .int .i64 0, .int .i64 0])] [1,3,5,6] [3,5,6])
  (.seq (.reg [Qm 8 1, QL 9 2 5, Q 10 (.build [.int .i64 0, .int .i64 0, .int .i64 0] [(0, 1, .t 8), (1, 2, .t 9)]), Q 7 (.alloc [.int .i64 0, .int .i64 0, .int .i64 0]), Qs 3 7 10] [3,5,6,7] [3,5,6,7])
  (.seq (.seq (.reg [QL 11 2 5, Qf 12 1 3, QL 13 2 12, Q 14 (.call 277 [.t 11, .t 13] [] []), Q 15 (.not (.t 14)), Qm 16 15, Qg 17 (.load true 3 (.t 7)) 16 false,
    Qg 18 (.call 276 [.t 17] [] []) 16 false, Qg 19 (.not (.t 18)) 16 false, Q 20 (.pick (.t 16) (kB true) (.t 19))] [3,6,7,20] [3,6,7])
  (.cond (.t 20) (.seq (.reg [QL 21 3 3, Qs 3 6 21] [6] [6])
  (.ret)) (.skip)))
  (.seq (.reg [QL 22 3 7, Qs 3 6 22] [6] [6])
  (.ret))))
def spec_PutReg.m : Fn := { np := 3, body := spec_PutReg.b, res := [.cell 6 true 3] }
def spec_PutReg.k (M : Nat → Option Body) : Prop := M 243 = some (.code spec_PutReg.m) ∧ spec_RegOk.k M ∧ spec_Later.k M
def spec_SetFlags.l0 : C := .seq (.seq (.reg [Qm 21 8, Qm 22 7, Q 23 (.len (.t 22)), Q 24 (.bin .lss (.t 21) (.t 23))] [1,5,7,8,24] [5,11100])
  (.cond (.t 24) (.skip) (.exit 0)))
  (.seq (.block 1 (.seq (.reg [Qm 27 1, Qm 28 8, Q 29 (.i2i .u64 (.t 28)), Q 30 (.bin .shr (.t 27) (.t 29)), Q 31 (.bin .rem (.t 30) (kI 2)), Qm 9 31] [1,5,7,8,9] [5,11100])
  (.seq (.reg [Qm 32 7, Qm 33 8, Qa 34 3 32 33, Qf 35 0 34, Ql 36 35, Qm 37 9, Q 38 (.bin .neq (.t 36) (.t 37))] [1,5,7,8,9,38] [5,11100])
  (.cond (.t 38) (.regd [Qm 39 7, Qm 40 8, Qm 41 7, Qm 42 8, Qa 43 3 41 42, QL 44 3 43, Qm 45 9, QL 46 2 5, Q 47 (.call 243 [.t 44, .t 45, .t 46] [] []), Qa 48 3 39 40, Qs 3 48 47] [[], [], [], [], [2,3], [2,3,4], [], [], [2,3,4,5,6,7], lr 9, lr 10] [1,5,7,8] [5,11100]) (.skip)))))
  (.reg [Qm 25 8, Q 26 (.bin .add (.t 25) (kI 1)), Qm 8 26] [1,5,7,8] [5,11100]))
def spec_SetFlags.b : C := .seq (.reg [Qv 5 2, Q 6 (.nil 3)] [0,1,5] [5])
  (.seq (.reg [Qm 10 0, Q 11 (.call 241 [.t 10] [] [(0, 11100)]), Qm 7 11] [0,1,5,7] [5,11100])
  (.seq (.seq (.reg [Qm 12 0, Q 13 (.call 242 [.t 12] [] []), Q 14 (.not (.t 13)), Qm 15 14, Qg 16 (.mv (.t 1)) 15 false, Qg 17 (.call 98 [.t 16, kI 0, kI 7] [] []) 15 false,
    Qg 18 (.not (.t 17)) 15 false, Q 19 (.pick (.t 15) (kB true) (.t 18))] [1,5,7,19] [5,11100])
  (.cond (.t 19) (.seq (.reg [Qm 20 7, Qm 6 20] [6] [6,11100])
  (.ret)) (.skip)))
  (.seq (.seq (.reg [Qi 8 0] [1,5,7,8] [5,11100])
  (.block 0 (.loop spec_SetFlags.l0)))
  (.seq (.reg [Qm 49 7, Qm 6 49] [6] [6,11100])
  (.ret)))))
def spec_SetFlags.m : Fn := { np := 3, body := spec_SetFlags.b, res := [.tmp 6] }
def spec_SetFlags.k (M : Nat → Option Body) : Prop := M 184 = some (.code spec_SetFlags.m) ∧ spec_l01In.k M ∧ spec_l04Copy.k M ∧ spec_FlagsOk.k M ∧ spec_PutReg.k M
def spec_FlagMail.b : C := .seq (.reg [Qv 4 0, Qv 7 3, Q 8 (.alloc [.int .i64 0, .str ⟨#[]⟩, .int .i64 0, .int .i64 0, .int .i64 0, .nils 4, .nils 1]), Qb 9 false] [1,2,4,7,8] [4,7,8,11305,11306])
  (.seq (.reg [QL 12 7 4, Q 13 (.call 180 [.t 12] [] [(5, 11305), (6, 11306)]), Q 10 (.alloc [.int .i64 0, .str ⟨#[]⟩, .int .i64 0, .int .i64 0, .int .i64 0, .nils 4, .nils 1]), Qs 7 10 13] [1,2,4,7,8,10] [4,7,8,10,11305,11306])
  (.seq (.reg [QL 14 7 4, Qm 15 1, Q 16 (.call 91 [.t 14, .t 15] [] []), Qm 11 16] [2,4,7,8,10,11] [4,7,8,10,11305,11306])
  (.seq (.seq (.reg [QL 17 7 4, Q 18 (.call 88 [.t 17] [] []), Q 19 (.not (.t 18)), Qm 20 19, Qg 21 (.mv (.t 11)) 20 false, Qg 22 (.bin .lss (.t 21) (kI 0)) 20 false,
    Q 23 (.pick (.t 20) (kB true) (.t 22)), Qm 24 23, Qg 25 (.mv (.t 2)) 24 false, Qg 26 (.call 98 [.t 25, kI 0, kI 7] [] []) 24 false, Qg 27 (.not (.t 26)) 24 false,
    Q 28 (.pick (.t 24) (kB true) (.t 27)), Qm 29 28, Qg 30 (.load true 2 (.t 7)) 29 false, Qg 31 (.call 183 [.t 30] [] []) 29 false, Qg 32 (.not (.t 31)) 29 false,
    Q 33 (.pick (.t 29) (kB true) (.t 32))] [2,4,7,8,10,11,33] [4,7,8,10,11305,11306])
  (.cond (.t 33) (.seq (.reg [QL 34 7 10, Qs 7 8 34, Qb 9 false] [8,9] [8,11305,11306])
  (.ret)) (.skip)))
  (.seq (.regd [Qf 35 5 10, Ql 36 35, Qm 37 11, Qf 38 5 4, Ql 39 38, Qm 40 11, Qa 41 4 39 40, Qf 42 2 41, Ql 43 42, Qm 44 2, QL 45 2 7, Q 46 (.call 184 [.t 43, .t 44, .t 45] [] []), Qa 47 4 36 37,
    Qf 48 2 47, Qs 1 48 46] [[], [0], [], [], [3], [], [3,4,5], [3,4,5,6], [3,4,5,6,7], [], [], [3,4,5,6,7,8,9,10], lr 12, lr 13, lr 14] [8,10] [8,10,11305,11306])
  (.seq (.reg [QL 49 7 10, Qs 7 8 49, Qb 9 true] [8,9] [8,11305,11306])
  (.ret))))))
def spec_FlagMail.m : Fn := { np := 4, body := spec_FlagMail.b, res := [.cell 8 true 7, .tmp 9] }
def spec_FlagMail.k (M : Nat → Option Body) : Prop := M 84 = some (.code spec_FlagMail.m) ∧ spec_BoxOk.k M ∧ spec_MailAt.k M ∧ spec_l01In.k M ∧ spec_l06Copy.k M ∧ spec_StampOk.k M ∧ spec_SetFlags.k M
def spec_TakeOut.b : C := .seq (.reg [Qv 2 0, Q 4 (.alloc [.int .i64 0, .str ⟨#[]⟩, .int .i64 0, .int .i64 0, .int .i64 0, .nils 4, .nils 1]), Qb 5 false] [1,2,4] [2,4,27,32,38,10905,10906,14300])
  (.seq (.reg [QL 8 7 2, Q 9 (.call 180 [.t 8] [] [(5, 10905), (6, 10906)]), Q 6 (.alloc [.int .i64 0, .str ⟨#[]⟩, .int .i64 0, .int .i64 0, .int .i64 0, .nils 4, .nils 1]), Qs 7 6 9] [1,2,4,6] [2,4,6,27,32,38,10905,10906,14300])
  (.seq (.reg [QL 10 7 2, Qm 11 1, Q 12 (.call 91 [.t 10, .t 11] [] []), Qm 7 12] [1,2,4,6,7] [2,4,6,27,32,38,10905,10906,14300])
  (.seq (.seq (.reg [QL 13 7 2, Q 14 (.call 88 [.t 13] [] []), Q 15 (.not (.t 14)), Qm 16 15, Qg 17 (.mv (.t 7)) 16 false, Qg 18 (.bin .lss (.t 17) (kI 0)) 16 false,
    Q 19 (.pick (.t 16) (kB true) (.t 18)), Qm 20 19, Qg 21 (.faddr 6 (.t 2)) 20 false, Qg 22 (.load false 1 (.t 21)) 20 false, Qg 23 (.len (.t 22)) 20 false,
    Qg 24 (.bin .geq (.t 23) (kI 40)) 20 false, Q 25 (.pick (.t 20) (kB true) (.t 24))] [1,2,4,6,7,25] [2,4,6,27,32,38,10905,10906,14300])
  (.cond (.t 25) (.seq (.reg [QL 26 7 6, Qs 7 4 26, Qb 5 false] [4,5] [4,27,32,38,10905,10906,14300])
  (.ret)) (.skip)))
  (.seq (.regd [Q 27 (.bslice 4 0 [.int .i64 0, .int .i64 0, .nils 3, .str ⟨#[]⟩] []), Qf 28 5 6, Ql 29 28, Qm 30 7, Q 31 (.slc 4 (.t 29) none (some (.t 30)) none),
    Q 32 (.app 4 56 (.t 27) (.t 31)), Qf 33 5 6, Ql 34 33, Qm 35 7, Q 36 (.bin .add (.t 35) (kI 1)), Q 37 (.slc 4 (.t 34) (some (.t 36)) none none), Q 38 (.app 4 56 (.t 32) (.t 37)),
    Qf 39 5 6, Qs 1 39 38] [[], [], [1], [], [1,2,3], lr 5, [], [6], [], [8], [6,7,8,9], lr 11, lr 12, lr 13] [1,2,4,6] [2,4,6,27,32,38,10905,10906,14300])
  (.seq (.reg [Qf 40 6 2, Ql 41 40, Qm 42 1, Q 43 (.call 133 [.t 41, .t 42] [] [(0, 14300)]), Qf 44 6 6, Qs 1 44 43] [4,6] [4,6,27,32,38,10905,10906,14300])
  (.seq (.reg [QL 45 7 6, Qs 7 4 45, Qb 5 true] [4,5] [4,27,32,38,10905,10906,14300])
  (.ret)))))))
def spec_TakeOut.m : Fn := { np := 2, body := spec_TakeOut.b, res := [.cell 4 true 7, .tmp 5] }
def spec_TakeOut.k (M : Nat → Option Body) : Prop := M 86 = some (.code spec_TakeOut.m) ∧ spec_BoxOk.k M ∧ spec_MailAt.k M ∧ spec_l06Put.k M ∧ spec_l06Copy.k M
end Mx

namespace Mx
open Go
def spec_BoxAt.l0 : C := .seq (.seq (.reg [Qm 6 5, Qf 7 2 2, Ql 8 7, Q 9 (.len (.t 8)), Q 10 (.bin .lss (.t 6) (.t 9))] [1,2,5,10] [2])
  (.cond (.t 10) (.skip) (.exit 0)))
  (.seq (.block 1 (.seq (.reg [Qf 13 2 2, Ql 14 13, Qm 15 5, Qa 16 7 14 15, Qf 17 0 16, Ql 18 17, Qm 19 1, Q 20 (.bin .eql (.t 18) (.t 19))] [1,2,5,20] [2])
  (.cond (.t 20) (.seq (.reg [Qm 21 5, Qm 4 21] [4] [])
  (.ret)) (.skip))))
  (.reg [Qm 11 5, Q 12 (.bin .add (.t 11) (kI 1)), Qm 5 12] [1,2,5] [2]))
def spec_BoxAt.b : C := .seq (.reg [Qv 2 0, Qi 4 0] [1,2] [2])
  (.seq (.seq (.reg [Qi 5 0] [1,2,5] [2])
  (.block 0 (.loop spec_BoxAt.l0)))
  (.seq (.reg [Qi 4 (-1)] [4] [])
  (.ret)))
def spec_BoxAt.m : Fn := { np := 2, body := spec_BoxAt.b, res := [.tmp 4] }
def spec_BoxAt.k (M : Nat → Option Body) : Prop := M 196 = some (.code spec_BoxAt.m)
def spec_Knows.l0 : C := .seq (.seq (.reg [Qm 16 5, Qf 17 2 2, Ql 18 17, Q 19 (.len (.t 18)), Q 20 (.bin .lss (.t 16) (.t 19))] [1,2,5,20] [2])
  (.cond (.t 20) (.skip) (.exit 0)))
  (.seq (.block 1 (.seq (.reg [Qf 23 2 2, Ql 24 23, Qm 25 5, Qa 26 7 24 25, QL 27 7 26, Qm 28 1, Q 29 (.call 91 [.t 27, .t 28] [] []), Q 30 (.bin .geq (.t 29) (kI 0)), Qm 31 30, Qg 32 (.faddr 2 (.t 2)) 31 false,
    Qg 33 (.load false 1 (.t 32)) 31 false, Qg 34 (.mv (.t 5)) 31 false, Qg 35 (.iaddr 7 (.t 33) (.t 34)) 31 false, Qg 36 (.faddr 6 (.t 35)) 31 false,
    Qg 37 (.load false 1 (.t 36)) 31 false, Qg 38 (.mv (.t 1)) 31 false, Qg 39 (.call 132 [.t 37, .t 38] [] []) 31 false, Q 40 (.pick (.t 31) (kB true) (.t 39))] [1,2,5,40] [2])
  (.cond (.t 40) (.seq (.reg [Qb 4 true] [4] [])
  (.ret)) (.skip))))
  (.reg [Qm 21 5, Q 22 (.bin .add (.t 21) (kI 1)), Qm 5 22] [1,2,5] [2]))
def spec_Knows.b : C := .seq (.reg [Qv 2 0, Qb 4 false] [1,2] [2])
  (.seq (.seq (.reg [QL 6 4 2, Qm 7 1, Q 8 (.call 196 [.t 6, .t 7] [] []), Q 9 (.bin .geq (.t 8) (kI 0)), Qm 10 9, Qg 11 (.faddr 3 (.t 2)) 10 false, Qg 12 (.load false 1 (.t 11)) 10 false,
    Qg 13 (.mv (.t 1)) 10 false, Qg 14 (.call 132 [.t 12, .t 13] [] []) 10 false, Q 15 (.pick (.t 10) (kB true) (.t 14))] [1,2,15] [2])
  (.cond (.t 15) (.seq (.reg [Qb 4 true] [4] [])
  (.ret)) (.skip)))
  (.seq (.seq (.reg [Qi 5 0] [1,2,5] [2])
  (.block 0 (.loop spec_Knows.l0)))
  (.seq (.reg [Qb 4 false] [4] [])
  (.ret))))
def spec_Knows.m : Fn := { np := 2, body := spec_Knows.b, res := [.tmp 4] }
def spec_Knows.k (M : Nat → Option Body) : Prop := M 300 = some (.code spec_Knows.m) ∧ spec_MailAt.k M ∧ spec_l06In.k M ∧ spec_BoxAt.k M
def spec_NextStamp.b : C := .seq (.reg [Qv 1 0, Q 2 (.alloc [.int .i64 0, .int .i64 0])] [1,2] [1,2])
  (.seq (.reg [Qf 3 1 1, Ql 4 3, Q 5 (.bin .add (.t 4) (kI 1)), Qf 6 0 1, Ql 7 6, Q 8 (.build [.int .i64 0, .int .i64 0] [(0, 1, .t 5), (1, 1, .t 7)]), Qs 2 2 8] [2] [2])
  (.ret))
def spec_NextStamp.m : Fn := { np := 1, body := spec_NextStamp.b, res := [.cell 2 true 2] }
def spec_NextStamp.k (M : Nat → Option Body) : Prop := M 301 = some (.code spec_NextStamp.m)
def spec_l07Copy.l0 : C := .seq (.seq (.reg [Qm 8 4, Qf 9 2 1, Ql 10 9, Q 11 (.len (.t 10)), Q 12 (.bin .lss (.t 8) (.t 11))] [1,2,3,4,12] [1,2,3,6,24,26,29])
  (.cond (.t 12) (.skip) (.exit 0)))
  (.seq (.block 1 (.regd [Qf 15 2 3, Ql 16 15, Qf 17 2 1, Ql 18 17, Qm 19 4, Qa 20 7 18 19, QL 21 7 20, Q 22 (.call 180 [.t 21] [] []),
    Q 23 (.bslice 7 1 [.int .i64 0, .str ⟨#[]⟩, .int .i64 0, .int .i64 0, .int .i64 0, .nils 4, .nils 1] [(0, .t 22)]), Q 24 (.app 7 96 (.t 16) (.t 23)), Qf 25 2 3, Qs 1 25 24] [[], [0], [], [2], [], [2,3,4], [2,3,4,5], [2,3,4,5,6], [2,3,4,5,6,7], lr 9, lr 10, lr 11] [1,2,3,4] [1,2,3,6,24,26,29]))
  (.reg [Qm 13 4, Q 14 (.bin .add (.t 13) (kI 1)), Qm 4 14] [1,2,3,4] [1,2,3,6,24,26,29]))
def spec_l07Copy.b : C := .seq (.reg [Qv 1 0, Q 2 (.alloc [.int .i64 0, .int .i64 0, .nils 7, .nils 1])] [1,2] [1,2,6,24,26,29])
  (.seq (.reg [QL 5 4 1, Q 3 (.alloc [.int .i64 0, .int .i64 0, .nils 7, .nils 1]), Qs 4 3 5] [1,2,3] [1,2,3,6,24,26,29])
  (.seq (.reg [Q 6 (.bslice 7 0 [.int .i64 0, .str ⟨#[]⟩, .int .i64 0, .int .i64 0, .int .i64 0, .nils 4, .nils 1] []), Qf 7 2 3, Qs 1 7 6] [1,2,3] [1,2,3,6,24,26,29])
  (.seq (.seq (.reg [Qi 4 0] [1,2,3,4] [1,2,3,6,24,26,29])
  (.block 0 (.loop spec_l07Copy.l0)))
  (.seq (.reg [Q 26 (.bslice 1 0 [.int .i64 0] []), Qf 27 3 1, Ql 28 27, Q 29 (.app 1 8 (.t 26) (.t 28)), Qf 30 3 3, Qs 1 30 29] [2,3] [2,3,6,24,26,29])
  (.seq (.reg [QL 31 4 3, Qs 4 2 31] [2] [2,6,24,26,29])
  (.ret))))))
def spec_l07Copy.m : Fn := { np := 1, body := spec_l07Copy.b, res := [.cell 2 true 4] }
def spec_l07Copy.k (M : Nat → Option Body) : Prop := M 219 = some (.code spec_l07Copy.m) ∧ spec_l06Copy.k M
def spec_MakeBox.l0 : C := .seq (.seq (.reg [Qm 37 10, Qf 38 2 3, Ql 39 38, Q 40 (.len (.t 39)), Q 41 (.bin .lss (.t 37) (.t 40))] [1,3,6,8,9,10,41] [3,6,8,9,30,61,67,93,12702,12703,12902,12903,20302,20303])
  (.cond (.t 41) (.skip) (.exit 0)))
  (.seq (.block 1 (.seq (.reg [Qf 44 2 3, Ql 45 44, Qm 46 10, Qa 47 7 45 46, Qf 48 0 47, Ql 49 48, Qm 50 1, Q 51 (.bin .lss (.t 49) (.t 50))] [1,3,6,8,9,10,51] [3,6,8,9,30,61,67,93,12702,12703,12902,12903,20302,20303])
  (.cond (.t 51) (.regd [Qf 52 2 8, Ql 53 52, Qf 54 2 3, Ql 55 54, Qm 56 10, Qa 57 7 55 56, QL 58 7 57, Q 59 (.call 180 [.t 58] [] []),
    Q 60 (.bslice 7 1 [.int .i64 0, .str ⟨#[]⟩, .int .i64 0, .int .i64 0, .int .i64 0, .nils 4, .nils 1] [(0, .t 59)]), Q 61 (.app 7 96 (.t 53) (.t 60)), Qf 62 2 8, Qs 1 62 61] [[], [0], [], [2], [], [2,3,4], [2,3,4,5], [2,3,4,5,6], [2,3,4,5,6,7], lr 9, lr 10, lr 11] [1,3,6,8,9,10] [3,6,8,9,30,61,67,93,12702,12703,12902,12903,20302,20303]) (.skip))))
  (.reg [Qm 42 10, Q 43 (.bin .add (.t 42) (kI 1)), Qm 10 43] [1,3,6,8,9,10] [3,6,8,9,30,61,67,93,12702,12703,12902,12903,20302,20303]))
def spec_MakeBox.l1 : C := .seq (.seq (.reg [Qm 69 11, Qf 70 2 3, Ql 71 70, Q 72 (.len (.t 71)), Q 73 (.bin .lss (.t 69) (.t 72))] [1,3,6,8,11,73] [3,6,8,30,61,67,93,12702,12703,12902,12903,20302,20303])
  (.cond (.t 73) (.skip) (.exit 2)))
  (.seq (.block 3 (.seq (.reg [Qf 76 2 3, Ql 77 76, Qm 78 11, Qa 79 7 77 78, Qf 80 0 79, Ql 81 80, Qm 82 1, Q 83 (.bin .gtr (.t 81) (.t 82))] [1,3,6,8,11,83] [3,6,8,30,61,67,93,12702,12703,12902,12903,20302,20303])
  (.cond (.t 83) (.regd [Qf 84 2 8, Ql 85 84, Qf 86 2 3, Ql 87 86, Qm 88 11, Qa 89 7 87 88, QL 90 7 89, Q 91 (.call 180 [.t 90] [] []),
    Q 92 (.bslice 7 1 [.int .i64 0, .str ⟨#[]⟩, .int .i64 0, .int .i64 0, .int .i64 0, .nils 4, .nils 1] [(0, .t 91)]), Q 93 (.app 7 96 (.t 85) (.t 92)), Qf 94 2 8, Qs 1 94 93] [[], [0], [], [2], [], [2,3,4], [2,3,4,5], [2,3,4,5,6], [2,3,4,5,6,7], lr 9, lr 10, lr 11] [1,3,6,8,11] [3,6,8,30,61,67,93,12702,12703,12902,12903,20302,20303]) (.skip))))
  (.reg [Qm 74 11, Q 75 (.bin .add (.t 74) (kI 1)), Qm 11 75] [1,3,6,8,11] [3,6,8,30,61,67,93,12702,12703,12902,12903,20302,20303]))
def spec_MakeBox.b : C := .seq (.reg [Qv 3 0, Q 6 (.alloc [.int .i64 0, .int .i64 0, .nils 7, .nils 1]), Qb 7 false] [1,2,3,6] [3,6,30,61,67,93,12702,12703,12902,12903,20302,20303])
  (.seq (.seq (.reg [QL 12 4 3, Q 13 (.call 149 [.t 12] [] []), Q 14 (.not (.t 13)), Qm 15 14, Qg 16 (.load true 4 (.t 3)) 15 false, Qg 17 (.mv (.t 1)) 15 false,
    Qg 18 (.call 300 [.t 16, .t 17] [] []) 15 false, Q 19 (.pick (.t 15) (kB true) (.t 18)), Qm 20 19, Qg 21 (.load true 4 (.t 3)) 20 false, Qg 22 (.mv (.t 2)) 20 false,
    Qg 23 (.call 226 [.t 21, .t 22] [] []) 20 false, Qg 24 (.bin .geq (.t 23) (kI 0)) 20 false, Q 25 (.pick (.t 20) (kB true) (.t 24))] [1,2,3,6,25] [3,6,30,61,67,93,12702,12703,12902,12903,20302,20303])
  (.cond (.t 25) (.seq (.reg [QL 26 4 3, Q 27 (.call 219 [.t 26] [] [(2, 12702), (3, 12703)]), Qs 4 6 27, Qb 7 false] [6,7] [6,30,61,67,93,12702,12703,12902,12903,20302,20303])
  (.ret)) (.skip)))
  (.seq (.reg [QL 28 4 3, Q 29 (.call 219 [.t 28] [] [(2, 12902), (3, 12903)]), Q 8 (.alloc [.int .i64 0, .int .i64 0, .nils 7, .nils 1]), Qs 4 8 29] [1,2,3,6,8] [3,6,8,30,61,67,93,12702,12703,12902,12903,20302,20303])
  (.seq (.reg [Q 30 (.bslice 7 0 [.int .i64 0, .str ⟨#[]⟩, .int .i64 0, .int .i64 0, .int .i64 0, .nils 4, .nils 1] []), Qf 31 2 8, Qs 1 31 30] [1,2,3,6,8] [3,6,8,30,61,67,93,12702,12703,12902,12903,20302,20303])
  (.seq (.reg [Qm 32 1, Qm 33 2, QL 34 4 3, Q 35 (.call 301 [.t 34] [] []),
    Q 36 (.build [.int .i64 0, .str ⟨#[]⟩, .int .i64 0, .int .i64 0, .int .i64 0, .nils 4, .nils 1] [(0, 1, .t 32), (1, 1, .t 33), (2, 2, .t 35), (4, 1, kI 1)]),
    Q 9 (.alloc [.int .i64 0, .str ⟨#[]⟩, .int .i64 0, .int .i64 0, .int .i64 0, .nils 4, .nils 1]), Qs 7 9 36] [1,3,6,8,9] [3,6,8,9,30,61,67,93,12702,12703,12902,12903,20302,20303])
  (.seq (.seq (.reg [Qi 10 0] [1,3,6,8,9,10] [3,6,8,9,30,61,67,93,12702,12703,12902,12903,20302,20303])
  (.block 0 (.loop spec_MakeBox.l0)))
  (.seq (.reg [Qf 63 2 8, Ql 64 63, QL 65 7 9, Q 66 (.bslice 7 1 [.int .i64 0, .str ⟨#[]⟩, .int .i64 0, .int .i64 0, .int .i64 0, .nils 4, .nils 1] [(0, .t 65)]), Q 67 (.app 7 96 (.t 64) (.t 66)),
    Qf 68 2 8, Qs 1 68 67] [1,3,6,8] [3,6,8,30,61,67,93,12702,12703,12902,12903,20302,20303])
  (.seq (.seq (.reg [Qi 11 0] [1,3,6,8,11] [3,6,8,30,61,67,93,12702,12703,12902,12903,20302,20303])
  (.block 2 (.loop spec_MakeBox.l1)))
  (.seq (.reg [Qf 95 1 3, Ql 96 95, Q 97 (.bin .add (.t 96) (kI 1)), Qf 98 1 8, Qs 1 98 97] [3,6,8] [3,6,8,30,61,67,93,12702,12703,12902,12903,20302,20303])
  (.seq (.seq (.reg [QL 99 4 8, Q 100 (.call 149 [.t 99] [] []), Q 101 (.not (.t 100))] [3,6,8,101] [3,6,8,30,61,67,93,12702,12703,12902,12903,20302,20303])
  (.cond (.t 101) (.seq (.reg [QL 102 4 3, Q 103 (.call 219 [.t 102] [] [(2, 20302), (3, 20303)]), Qs 4 6 103, Qb 7 false] [6,7] [6,30,61,67,93,12702,12703,12902,12903,20302,20303])
  (.ret)) (.skip)))
  (.seq (.reg [QL 104 4 8, Qs 4 6 104, Qb 7 true] [6,7] [6,30,61,67,93,12702,12703,12902,12903,20302,20303])
  (.ret)))))))))))
def spec_MakeBox.m : Fn := { np := 3, body := spec_MakeBox.b, res := [.cell 6 true 4, .tmp 7] }
def spec_MakeBox.k (M : Nat → Option Body) : Prop := M 278 = some (.code spec_MakeBox.m) ∧ spec_StoreOk.k M ∧ spec_l06Copy.k M ∧ spec_l07Copy.k M ∧ spec_BoxNamed.k M ∧ spec_Knows.k M ∧ spec_NextStamp.k M
def spec_RenameBox.b : C := .seq (.reg [Qv 3 0, Q 6 (.alloc [.int .i64 0, .int .i64 0, .nils 7, .nils 1]), Qb 7 false] [1,2,3,6] [3,6,11102,11103,15002,15003])
  (.seq (.reg [QL 10 4 3, Q 11 (.call 219 [.t 10] [] [(2, 11102), (3, 11103)]), Q 8 (.alloc [.int .i64 0, .int .i64 0, .nils 7, .nils 1]), Qs 4 8 11] [1,2,3,6,8] [3,6,8,11102,11103,15002,15003])
  (.seq (.reg [QL 12 4 3, Qm 13 1, Q 14 (.call 196 [.t 12, .t 13] [] []), Qm 9 14] [2,3,6,8,9] [3,6,8,11102,11103,15002,15003])
  (.seq (.seq (.reg [QL 15 4 3, Q 16 (.call 149 [.t 15] [] []), Q 17 (.not (.t 16)), Qm 18 17, Qg 19 (.mv (.t 9)) 18 false, Qg 20 (.bin .lss (.t 19) (kI 0)) 18 false,
    Q 21 (.pick (.t 18) (kB true) (.t 20)), Qm 22 21, Qg 23 (.load true 4 (.t 3)) 22 false, Qg 24 (.mv (.t 2)) 22 false, Qg 25 (.call 226 [.t 23, .t 24] [] []) 22 false,
    Qg 26 (.bin .geq (.t 25) (kI 0)) 22 false, Q 27 (.pick (.t 22) (kB true) (.t 26))] [2,3,6,8,9,27] [3,6,8,11102,11103,15002,15003])
  (.cond (.t 27) (.seq (.reg [QL 28 4 8, Qs 4 6 28, Qb 7 false] [6,7] [6,11102,11103,15002,15003])
  (.ret)) (.skip)))
  (.seq (.reg [Qf 29 2 8, Ql 30 29, Qm 31 9, Qm 32 2, Qa 33 7 30 31, Qf 34 1 33, Qs 1 34 32] [3,6,8,9] [3,6,8,11102,11103,15002,15003])
  (.seq (.regd [Qf 35 2 8, Ql 36 35, Qm 37 9, QL 38 4 3, Q 39 (.call 301 [.t 38] [] []), Qa 40 7 36 37, Qf 41 2 40, Qs 2 41 39] [[], [0], [], [], [3], lr 5, lr 6, lr 7] [3,6,8] [3,6,8,11102,11103,15002,15003])
  (.seq (.reg [Qf 42 1 3, Ql 43 42, Q 44 (.bin .add (.t 43) (kI 1)), Qf 45 1 8, Qs 1 45 44] [3,6,8] [3,6,8,11102,11103,15002,15003])
  (.seq (.seq (.reg [QL 46 4 8, Q 47 (.call 149 [.t 46] [] []), Q 48 (.not (.t 47))] [3,6,8,48] [3,6,8,11102,11103,15002,15003])
  (.cond (.t 48) (.seq (.reg [QL 49 4 3, Q 50 (.call 219 [.t 49] [] [(2, 15002), (3, 15003)]), Qs 4 6 50, Qb 7 false] [6,7] [6,11102,11103,15002,15003])
  (.ret)) (.skip)))
  (.seq (.reg [QL 51 4 8, Qs 4 6 51, Qb 7 true] [6,7] [6,11102,11103,15002,15003])
  (.ret)))))))))
def spec_RenameBox.m : Fn := { np := 3, body := spec_RenameBox.b, res := [.cell 6 true 4, .tmp 7] }
def spec_RenameBox.k (M : Nat → Option Body) : Prop := M 282 = some (.code spec_RenameBox.m) ∧ spec_StoreOk.k M ∧ spec_BoxAt.k M ∧ spec_l07Copy.k M ∧ spec_BoxNamed.k M ∧ spec_NextStamp.k M
def spec_DropBox.b : C := .seq (.reg [Qv 2 0, Q 4 (.alloc [.int .i64 0, .int .i64 0, .nils 7, .nils 1]), Qb 5 false] [1,2,4] [2,4,27,32,38,10902,10903,14300])
  (.seq (.reg [QL 8 4 2, Q 9 (.call 219 [.t 8] [] [(2, 10902), (3, 10903)]), Q 6 (.alloc [.int .i64 0, .int .i64 0, .nils 7, .nils 1]), Qs 4 6 9] [1,2,4,6] [2,4,6,27,32,38,10902,10903,14300])
  (.seq (.reg [QL 10 4 2, Qm 11 1, Q 12 (.call 196 [.t 10, .t 11] [] []), Qm 7 12] [1,2,4,6,7] [2,4,6,27,32,38,10902,10903,14300])
  (.seq (.seq (.reg [QL 13 4 2, Q 14 (.call 149 [.t 13] [] []), Q 15 (.not (.t 14)), Qm 16 15, Qg 17 (.mv (.t 7)) 16 false, Qg 18 (.bin .lss (.t 17) (kI 0)) 16 false,
    Q 19 (.pick (.t 16) (kB true) (.t 18)), Qm 20 19, Qg 21 (.faddr 3 (.t 2)) 20 false, Qg 22 (.load false 1 (.t 21)) 20 false, Qg 23 (.len (.t 22)) 20 false,
    Qg 24 (.bin .geq (.t 23) (kI 20)) 20 false, Q 25 (.pick (.t 20) (kB true) (.t 24))] [1,2,4,6,7,25] [2,4,6,27,32,38,10902,10903,14300])
  (.cond (.t 25) (.seq (.reg [QL 26 4 6, Qs 4 4 26, Qb 5 false] [4,5] [4,27,32,38,10902,10903,14300])
  (.ret)) (.skip)))
  (.seq (.regd [Q 27 (.bslice 7 0 [.int .i64 0, .str ⟨#[]⟩, .int .i64 0, .int .i64 0, .int .i64 0, .nils 4, .nils 1] []), Qf 28 2 6, Ql 29 28, Qm 30 7,
    Q 31 (.slc 7 (.t 29) none (some (.t 30)) none), Q 32 (.app 7 96 (.t 27) (.t 31)), Qf 33 2 6, Ql 34 33, Qm 35 7, Q 36 (.bin .add (.t 35) (kI 1)),
    Q 37 (.slc 7 (.t 34) (some (.t 36)) none none), Q 38 (.app 7 96 (.t 32) (.t 37)), Qf 39 2 6, Qs 1 39 38] [[], [], [1], [], [1,2,3], lr 5, [], [6], [], [8], [6,7,8,9], lr 11, lr 12, lr 13] [1,2,4,6] [2,4,6,27,32,38,10902,10903,14300])
  (.seq (.reg [Qf 40 3 2, Ql 41 40, Qm 42 1, Q 43 (.call 133 [.t 41, .t 42] [] [(0, 14300)]), Qf 44 3 6, Qs 1 44 43] [4,6] [4,6,27,32,38,10902,10903,14300])
  (.seq (.reg [QL 45 4 6, Qs 4 4 45, Qb 5 true] [4,5] [4,27,32,38,10902,10903,14300])
  (.ret)))))))
def spec_DropBox.m : Fn := { np := 2, body := spec_DropBox.b, res := [.cell 4 true 4, .tmp 5] }
def spec_DropBox.k (M : Nat → Option Body) : Prop := M 283 = some (.code spec_DropBox.m) ∧ spec_l06Put.k M ∧ spec_StoreOk.k M ∧ spec_BoxAt.k M ∧ spec_l07Copy.k M
def spec_l07Stamped.b : C := .seq (.reg [Qv 3 0, Qv 5 2, Q 6 (.alloc [.int .i64 0, .int .i64 0, .nils 7, .nils 1]), Qb 7 false] [1,3,5,6] [3,5,6,11002,11003,12402,12403])
  (.seq (.reg [QL 9 4 3, Q 10 (.call 219 [.t 9] [] [(2, 11002), (3, 11003)]), Q 8 (.alloc [.int .i64 0, .int .i64 0, .nils 7, .nils 1]), Qs 4 8 10] [1,3,5,6,8] [3,5,6,8,11002,11003,12402,12403])
  (.seq (.reg [Qf 11 2 8, Ql 12 11, Qm 13 1, QL 14 7 5, Qa 15 7 12 13, Qs 7 15 14] [3,6,8] [3,6,8,11002,11003,12402,12403])
  (.seq (.reg [Qf 16 1 3, Ql 17 16, Q 18 (.bin .add (.t 17) (kI 1)), Qf 19 1 8, Qs 1 19 18] [3,6,8] [3,6,8,11002,11003,12402,12403])
  (.seq (.seq (.reg [QL 20 4 8, Q 21 (.call 149 [.t 20] [] []), Q 22 (.not (.t 21))] [3,6,8,22] [3,6,8,11002,11003,12402,12403])
  (.cond (.t 22) (.seq (.reg [QL 23 4 3, Q 24 (.call 219 [.t 23] [] [(2, 12402), (3, 12403)]), Qs 4 6 24, Qb 7 false] [6,7] [6,11002,11003,12402,12403])
  (.ret)) (.skip)))
  (.seq (.reg [QL 25 4 8, Qs 4 6 25, Qb 7 true] [6,7] [6,11002,11003,12402,12403])
  (.ret))))))
def spec_l07Stamped.m : Fn := { np := 3, body := spec_l07Stamped.b, res := [.cell 6 true 4, .tmp 7] }
def spec_l07Stamped.k (M : Nat → Option Body) : Prop := M 302 = some (.code spec_l07Stamped.m) ∧ spec_StoreOk.k M ∧ spec_l07Copy.k M
def spec_PutMail.b : C := .seq (.reg [Qv 5 0, Q 10 (.alloc [.int .i64 0, .int .i64 0, .nils 7, .nils 1]), Qb 11 false] [1,2,3,4,5,10] [5,10,13102,13103,14902,14903,15302,15303])
  (.seq (.reg [QL 15 4 5, Qm 16 1, Q 17 (.call 196 [.t 15, .t 16] [] []), Qm 12 17] [2,3,4,5,10,12] [5,10,13102,13103,14902,14903,15302,15303])
  (.seq (.seq (.reg [QL 18 4 5, Q 19 (.call 149 [.t 18] [] []), Q 20 (.not (.t 19)), Qm 21 20, Qg 22 (.load true 4 (.t 5)) 21 false, Qg 23 (.mv (.t 2)) 21 false,
    Qg 24 (.call 300 [.t 22, .t 23] [] []) 21 false, Q 25 (.pick (.t 21) (kB true) (.t 24)), Qm 26 25, Qg 27 (.mv (.t 12)) 26 false, Qg 28 (.bin .lss (.t 27) (kI 0)) 26 false,
    Q 29 (.pick (.t 26) (kB true) (.t 28))] [2,3,4,5,10,12,29] [5,10,13102,13103,14902,14903,15302,15303])
  (.cond (.t 29) (.seq (.reg [QL 30 4 5, Q 31 (.call 219 [.t 30] [] [(2, 13102), (3, 13103)]), Qs 4 10 31, Qb 11 false] [10,11] [10,13102,13103,14902,14903,15302,15303])
  (.ret)) (.skip)))
  (.seq (.regd [Qf 33 2 5, Ql 34 33, Qm 35 12, Qa 36 7 34 35, QL 37 7 36, Qm 38 2, Qm 39 3, Qm 40 4, QL 41 4 5, Q 42 (.call 301 [.t 41] [] []),
    Q 43 (.call 81 [.t 37, .t 38, .t 39, .t 40, .t 42] [] []), Qm 32 43, Qx 44 0 32, Qx 45 1 32,
    Q 13 (.alloc [.int .i64 0, .str ⟨#[]⟩, .int .i64 0, .int .i64 0, .int .i64 0, .nils 4, .nils 1]), Qs 7 13 44, Qm 14 45] [[], [0], [], [0,1,2], lr 4, [], [], [], [], [8], lr 10, lr 11, lr 12, lr 12, [], lr 13 ++ [14], lr 16] [5,10,12,13,14] [5,10,13,13102,13103,14902,14903,15302,15303])
  (.seq (.seq (.reg [Qm 46 14, Q 47 (.not (.t 46))] [5,10,12,13,47] [5,10,13,13102,13103,14902,14903,15302,15303])
  (.cond (.t 47) (.seq (.reg [QL 48 4 5, Q 49 (.call 219 [.t 48] [] [(2, 14902), (3, 14903)]), Qs 4 10 49, Qb 11 false] [10,11] [10,13102,13103,14902,14903,15302,15303])
  (.ret)) (.skip)))
  (.seq (.reg [QL 50 4 5, Qm 51 12, QL 52 7 13, Q 53 (.call 302 [.t 50, .t 51, .t 52] [] [(2, 15302), (3, 15303)]), Qx 54 0 53, Qx 55 1 53, Qs 4 10 54, Qm 11 55] [10,11] [10,13102,13103,14902,14903,15302,15303])
  (.ret))))))
def spec_PutMail.m : Fn := { np := 5, body := spec_PutMail.b, res := [.cell 10 true 4, .tmp 11] }
def spec_PutMail.k (M : Nat → Option Body) : Prop := M 279 = some (.code spec_PutMail.m) ∧ spec_AddMail.k M ∧ spec_StoreOk.k M ∧ spec_BoxAt.k M ∧ spec_l07Copy.k M ∧ spec_Knows.k M ∧ spec_NextStamp.k M ∧ spec_l07Stamped.k M
def spec_MarkMail.b : C := .seq (.reg [Qv 4 0, Q 8 (.alloc [.int .i64 0, .int .i64 0, .nils 7, .nils 1]), Qb 9 false] [1,2,3,4,8] [4,8,12402,12403,14102,14103,14502,14503])
  (.seq (.reg [QL 13 4 4, Qm 14 1, Q 15 (.call 196 [.t 13, .t 14] [] []), Qm 10 15] [2,3,4,8,10] [4,8,12402,12403,14102,14103,14502,14503])
  (.seq (.seq (.reg [QL 16 4 4, Q 17 (.call 149 [.t 16] [] []), Q 18 (.not (.t 17)), Qm 19 18, Qg 20 (.mv (.t 10)) 19 false, Qg 21 (.bin .lss (.t 20) (kI 0)) 19 false,
    Q 22 (.pick (.t 19) (kB true) (.t 21))] [2,3,4,8,10,22] [4,8,12402,12403,14102,14103,14502,14503])
  (.cond (.t 22) (.seq (.reg [QL 23 4 4, Q 24 (.call 219 [.t 23] [] [(2, 12402), (3, 12403)]), Qs 4 8 24, Qb 9 false] [8,9] [8,12402,12403,14102,14103,14502,14503])
  (.ret)) (.skip)))
  (.seq (.regd [Qf 26 2 4, Ql 27 26, Qm 28 10, Qa 29 7 27 28, QL 30 7 29, Qm 31 2, Qm 32 3, QL 33 4 4, Q 34 (.call 301 [.t 33] [] []), Q 35 (.call 84 [.t 30, .t 31, .t 32, .t 34] [] []), Qm 25 35,
    Qx 36 0 25, Qx 37 1 25, Q 11 (.alloc [.int .i64 0, .str ⟨#[]⟩, .int .i64 0, .int .i64 0, .int .i64 0, .nils 4, .nils 1]), Qs 7 11 36, Qm 12 37] [[], [0], [], [0,1,2], lr 4, [], [], [], [7], lr 9, lr 10, lr 11, lr 11, [], lr 12 ++ [13], lr 15] [4,8,10,11,12] [4,8,11,12402,12403,14102,14103,14502,14503])
  (.seq (.seq (.reg [Qm 38 12, Q 39 (.not (.t 38))] [4,8,10,11,39] [4,8,11,12402,12403,14102,14103,14502,14503])
  (.cond (.t 39) (.seq (.reg [QL 40 4 4, Q 41 (.call 219 [.t 40] [] [(2, 14102), (3, 14103)]), Qs 4 8 41, Qb 9 false] [8,9] [8,12402,12403,14102,14103,14502,14503])
  (.ret)) (.skip)))
  (.seq (.reg [QL 42 4 4, Qm 43 10, QL 44 7 11, Q 45 (.call 302 [.t 42, .t 43, .t 44] [] [(2, 14502), (3, 14503)]), Qx 46 0 45, Qx 47 1 45, Qs 4 8 46, Qm 9 47] [8,9] [8,12402,12403,14102,14103,14502,14503])
  (.ret))))))
def spec_MarkMail.m : Fn := { np := 4, body := spec_MarkMail.b, res := [.cell 8 true 4, .tmp 9] }
def spec_MarkMail.k (M : Nat → Option Body) : Prop := M 280 = some (.code spec_MarkMail.m) ∧ spec_FlagMail.k M ∧ spec_StoreOk.k M ∧ spec_BoxAt.k M ∧ spec_l07Copy.k M ∧ spec_NextStamp.k M ∧ spec_l07Stamped.k M
def spec_DropMail.b : C := .seq (.reg [Qv 3 0, Q 6 (.alloc [.int .i64 0, .int .i64 0, .nils 7, .nils 1]), Qb 7 false] [1,2,3,6] [3,6,11302,11303])
  (.seq (.reg [QL 12 4 3, Q 13 (.call 219 [.t 12] [] [(2, 11302), (3, 11303)]), Q 8 (.alloc [.int .i64 0, .int .i64 0, .nils 7, .nils 1]), Qs 4 8 13] [1,2,3,6,8] [3,6,8,11302,11303])
  (.seq (.reg [QL 14 4 3, Qm 15 1, Q 16 (.call 196 [.t 14, .t 15] [] []), Qm 9 16] [2,3,6,8,9] [3,6,8,11302,11303])
  (.seq (.seq (.reg [QL 17 4 3, Q 18 (.call 149 [.t 17] [] []), Q 19 (.not (.t 18)), Qm 20 19, Qg 21 (.mv (.t 9)) 20 false, Qg 22 (.bin .lss (.t 21) (kI 0)) 20 false,
    Q 23 (.pick (.t 20) (kB true) (.t 22))] [2,3,6,8,9,23] [3,6,8,11302,11303])
  (.cond (.t 23) (.seq (.reg [QL 24 4 8, Qs 4 6 24, Qb 7 false] [6,7] [6,11302,11303])
  (.ret)) (.skip)))
  (.seq (.reg [Qf 26 2 3, Ql 27 26, Qm 28 9, Qa 29 7 27 28, QL 30 7 29, Qm 31 2, Q 32 (.call 86 [.t 30, .t 31] [] []), Qm 25 32, Qx 33 0 25, Qx 34 1 25,
    Q 10 (.alloc [.int .i64 0, .str ⟨#[]⟩, .int .i64 0, .int .i64 0, .int .i64 0, .nils 4, .nils 1]), Qs 7 10 33, Qm 11 34] [6,8,9,10,11] [6,8,10,11302,11303])
  (.seq (.seq (.reg [Qm 35 11, Q 36 (.not (.t 35))] [6,8,9,10,36] [6,8,10,11302,11303])
  (.cond (.t 36) (.seq (.reg [QL 37 4 8, Qs 4 6 37, Qb 7 false] [6,7] [6,11302,11303])
  (.ret)) (.skip)))
  (.seq (.reg [Qf 38 2 8, Ql 39 38, Qm 40 9, QL 41 7 10, Qa 42 7 39 40, Qs 7 42 41] [6,8] [6,8,11302,11303])
  (.seq (.reg [QL 43 4 8, Qs 4 6 43, Qb 7 true] [6,7] [6,11302,11303])
  (.ret))))))))
def spec_DropMail.m : Fn := { np := 3, body := spec_DropMail.b, res := [.cell 6 true 4, .tmp 7] }
def spec_DropMail.k (M : Nat → Option Body) : Prop := M 281 = some (.code spec_DropMail.m) ∧ spec_TakeOut.k M ∧ spec_StoreOk.k M ∧ spec_BoxAt.k M ∧ spec_l07Copy.k M
end Mx

namespace Mx
open Go
def spec_l01New.l0 : C := .seq (.seq (.reg [Qm 8 4, Qm 9 0, Q 10 (.len (.t 9)), Q 11 (.bin .lss (.t 8) (.t 10)), Qm 12 11, Qg 13 (.mv (.t 4)) 12 true, Qg 14 (.bin .lss (.t 13) (kI 4000)) 12 true,
    Q 15 (.pick (.t 12) (.t 14) (kB false))] [0,3,4,15] [])
  (.cond (.t 15) (.skip) (.exit 0)))
  (.seq (.block 1 (.reg [Qm 18 3, Q 19 (.bin .mul (.t 18) (kI 131)), Qm 20 0, Qm 21 4, Qa 22 1 20 21, Ql 23 22, Q 24 (.i2i .i64 (.t 23)), Q 25 (.bin .add (.t 19) (.t 24)), Q 26 (.bin .add (.t 25) (kI 7)),
    Q 27 (.bin .and (.t 26) (kI 1073741823)), Qm 3 27] [0,3,4] []))
  (.reg [Qm 16 4, Q 17 (.bin .add (.t 16) (kI 1)), Qm 4 17] [0,3,4] []))
def spec_l01New.b : C := .seq (.reg [Q 2 (.np)] [0] [])
  (.seq (.reg [Qm 5 0, Q 6 (.len (.t 5)), Q 7 (.bin .add (kI 77201) (.t 6)), Qm 3 7] [0,3] [])
  (.seq (.seq (.reg [Qi 4 0] [0,3,4] [])
  (.block 0 (.loop spec_l01New.l0)))
  (.seq (.reg [Qm 28 0, Qm 29 3, Q 30 (.build [.nils 1, .int .i64 0, .int .i64 0] [(0, 1, .t 28), (2, 1, .t 29)]), Qv 31 30, Qm 2 31] [2] [31])
  (.ret))))
def spec_l01New.m : Fn := { np := 1, body := spec_l01New.b, res := [.tmp 2] }
def spec_l01New.k (M : Nat → Option Body) : Prop := M 124 = some (.code spec_l01New.m)
def spec_l01Byte.b : C := .seq (.reg [Qi 2 0] [0] [0])
  (.seq (.reg [Qm 4 0, Qm 5 0, Q 6 (.nilc (.t 5)), Qf 7 2 6, Ql 8 7, Q 9 (.bin .mul (.t 8) (kI 6364136223846793005)), Q 10 (.bin .add (.t 9) (kI 1442695040888963407)), Q 11 (.nilc (.t 4)),
    Qf 12 2 11, Qs 1 12 10] [0] [0])
  (.seq (.regd [Qm 13 0, Q 14 (.nilc (.t 13)), Qf 15 2 14, Ql 16 15, Q 17 (.bin .shr (.t 16) (.k (.int .u64 33))), Qm 18 0, Q 19 (.nilc (.t 18)), Qf 20 2 19, Ql 21 20,
    Q 22 (.bin .shr (.t 21) (.k (.int .u64 45))), Q 23 (.bin .xor (.t 17) (.t 22)), Q 24 (.bin .and (.t 23) (kI 255)), Qm 3 24] [[], [0], [0,1], [0,1,2], lr 4, [], [5], [5,6], [5,6,7], [5,6,7,8], lr 10, lr 11, lr 12] [0,3] [0])
  (.seq (.seq (.regd [Qm 25 0, Q 26 (.nilc (.t 25)), Qf 27 1 26, Ql 28 27, Qm 29 0, Q 30 (.nilc (.t 29)), Qf 31 0 30, Ql 32 31, Q 33 (.len (.t 32)), Q 34 (.bin .lss (.t 28) (.t 33))] [[], [0], [0,1], [0,1,2], [], [4], [4,5], [4,5,6], [4,5,6,7], lr 9] [0,3,34] [0])
  (.cond (.t 34) (.seq (.regd [Qm 35 3, Qm 36 0, Q 37 (.nilc (.t 36)), Qf 38 0 37, Ql 39 38, Qm 40 0, Q 41 (.nilc (.t 40)), Qf 42 1 41, Ql 43 42, Qa 44 1 39 43, Ql 45 44, Q 46 (.i2i .i64 (.t 45)),
    Q 47 (.bin .add (.t 35) (.t 46)), Q 48 (.bin .and (.t 47) (kI 255)), Qm 3 48] [[], [], [1], [1,2], [1,2,3], [], [5], [5,6], [5,6,7], [1,2,3,4,5,6,7,8], [1,2,3,4,5,6,7,8,9], [1,2,3,4,5,6,7,8,9,10], lr 12, lr 13, lr 14] [0,3] [0])
  (.reg [Qm 49 0, Qm 50 0, Q 51 (.nilc (.t 50)), Qf 52 1 51, Ql 53 52, Q 54 (.bin .add (.t 53) (kI 1)), Q 55 (.nilc (.t 49)), Qf 56 1 55, Qs 1 56 54] [3] [0])) (.skip)))
  (.seq (.reg [Qm 57 3, Qm 2 57] [2] [0])
  (.ret)))))
def spec_l01Byte.m : Fn := { np := 1, body := spec_l01Byte.b, res := [.tmp 2] }
def spec_l01Byte.k (M : Nat → Option Body) : Prop := M 131 = some (.code spec_l01Byte.m)
def spec_l01Below.b : C := .seq (.reg [Qi 4 0] [0,1] [0])
  (.seq (.seq (.reg [Qm 9 1, Q 10 (.bin .leq (.t 9) (kI 0))] [0,1,10] [0])
  (.cond (.t 10) (.seq (.reg [Qi 4 0] [4] [0])
  (.ret)) (.skip)))
  (.seq (.seq (.reg [Qm 11 1, Q 12 (.bin .leq (.t 11) (kI 256))] [0,1,12] [0])
  (.cond (.t 12) (.seq (.reg [Qm 13 0, Q 14 (.call 131 [.t 13] [0] []), Qm 15 1, Q 16 (.bin .rem (.t 14) (.t 15)), Qm 4 16] [4] [0])
  (.ret)) (.skip)))
  (.seq (.reg [Qm 17 0, Q 18 (.call 131 [.t 17] [0] []), Qm 5 18] [0,1,5] [0])
  (.seq (.reg [Qm 19 0, Q 20 (.call 131 [.t 19] [0] []), Qm 6 20] [0,1,5,6] [0])
  (.seq (.reg [Qm 21 0, Q 22 (.call 131 [.t 21] [0] []), Qm 7 22] [0,1,5,6,7] [0])
  (.seq (.reg [Qm 23 0, Q 24 (.call 131 [.t 23] [0] []), Qm 8 24] [1,5,6,7,8] [0])
  (.seq (.reg [Qm 25 5, Q 26 (.bin .mul (.t 25) (kI 16777216)), Qm 27 6, Q 28 (.bin .mul (.t 27) (kI 65536)), Q 29 (.bin .add (.t 26) (.t 28)), Qm 30 7, Q 31 (.bin .mul (.t 30) (kI 256)),
    Q 32 (.bin .add (.t 29) (.t 31)), Qm 33 8, Q 34 (.bin .add (.t 32) (.t 33)), Qm 35 1, Q 36 (.bin .rem (.t 34) (.t 35)), Qm 4 36] [4] [0])
  (.ret))))))))
def spec_l01Below.m : Fn := { np := 2, body := spec_l01Below.b, res := [.tmp 4] }
def spec_l01Below.k (M : Nat → Option Body) : Prop := M 125 = some (.code spec_l01Below.m) ∧ spec_l01Byte.k M
def spec_l01Pick.b : C := .seq (.reg [Q 4 (.mv (.k (.str ⟨#[]⟩)))] [0,1] [0])
  (.seq (.reg [Qm 5 1, Qm 6 0, Qm 7 1, Q 8 (.len (.t 7)), Q 9 (.call 125 [.t 6, .t 8] [0] []), Qa 10 1 5 9, Ql 11 10, Qm 4 11] [4] [0])
  (.ret))
def spec_l01Pick.m : Fn := { np := 2, body := spec_l01Pick.b, res := [.tmp 4] }
def spec_l01Pick.k (M : Nat → Option Body) : Prop := M 185 = some (.code spec_l01Pick.m) ∧ spec_l01Below.k M
def spec_l05Text.b : C := .seq (.reg [Q 2 (.mv (.k (.str ⟨#[]⟩)))] [0] [0])
  (.seq (.reg [Qm 3 0,
    Q 4 (.bslf 1 6 [.str ⟨#[]⟩] [(0, .k (.str ⟨#[104,101,108,108,111]⟩)), (1, .k (.str ⟨#[104,105,10]⟩)), (2, .k (.str ⟨#[]⟩)), (3, .k (.str ⟨#[116,101,120,116,32,111,102,32,105,116]⟩)), (4, .k (.str ⟨#[0,255]⟩)), (5, .k (.str ⟨#[97,32,98]⟩))]),
    Q 5 (.call 185 [.t 3, .t 4] [0] []), Qm 2 5] [2] [0])
  (.ret))
def spec_l05Text.m : Fn := { np := 1, body := spec_l05Text.b, res := [.tmp 2] }
def spec_l05Text.k (M : Nat → Option Body) : Prop := M 174 = some (.code spec_l05Text.m) ∧ spec_l01Pick.k M
def spec_l03Stamp.b : C := .seq (.reg [Q 2 (.alloc [.int .i64 0, .int .i64 0])] [0,2] [0,2])
  (.seq (.reg [Qm 3 0, Q 4 (.call 125 [.t 3, kI 12] [0] []), Qm 5 0, Q 6 (.call 125 [.t 5, kI 2] [0] []), Q 7 (.bin .add (kI 1) (.t 6)),
    Q 8 (.build [.int .i64 0, .int .i64 0] [(0, 1, .t 4), (1, 1, .t 7)]), Qs 2 2 8] [2] [0,2])
  (.ret))
def spec_l03Stamp.m : Fn := { np := 1, body := spec_l03Stamp.b, res := [.cell 2 true 2] }
def spec_l03Stamp.k (M : Nat → Option Body) : Prop := M 232 = some (.code spec_l03Stamp.m) ∧ spec_l01Below.k M
def spec_l06Box.l0 : C := .seq (.seq (.reg [Qm 18 5, Qm 19 0, Q 20 (.call 125 [.t 19, kI 12] [0] []), Q 21 (.bin .lss (.t 18) (.t 20))] [0,2,4,5,21] [0,2,4,14905,14906])
  (.cond (.t 21) (.skip) (.exit 0)))
  (.seq (.block 1 (.seq (.reg [Qm 24 0, Q 25 (.call 125 [.t 24, kI 9] [0] []), Q 26 (.bin .add (kI 10) (.t 25)), Qm 6 26] [0,2,4,5,6] [0,2,4,14905,14906])
  (.seq (.reg [Qm 27 0, Q 28 (.call 232 [.t 27] [0] []), Q 7 (.alloc [.int .i64 0, .int .i64 0]), Qs 2 7 28] [0,2,4,5,6,7] [0,2,4,7,14905,14906])
  (.seq (.reg [Qm 29 0, Q 30 (.call 125 [.t 29, kI 5] [0] [])] [0,2,4,5,6,7,30] [0,2,4,7,14905,14906])
  (.block 2 (.seq (.seq (.reg [Q 38 (.bin .eql (.t 30) (kI 0)), Qm 37 38] [0,2,4,5,6,7,30,37] [0,2,4,7,14905,14906])
  (.cond (.t 37) (.skip) (.seq (.reg [Q 39 (.bin .eql (.t 30) (kI 1)), Qm 37 39] [0,2,4,5,6,7,30,37] [0,2,4,7,14905,14906])
  (.cond (.t 37) (.skip) (.reg [Q 40 (.bin .eql (.t 30) (kI 2)), Qm 37 40] [0,2,4,5,6,7,30,37] [0,2,4,7,14905,14906])))))
  (.cond (.t 37) (.shut [14905,14906] (.regd [QL 42 7 4, Qm 43 6, Qm 44 0, Q 45 (.call 125 [.t 44, kI 8] [0] []), Qm 46 0, Q 47 (.call 174 [.t 46] [0] []), QL 48 2 7,
    Q 49 (.call 81 [.t 42, .t 43, .t 45, .t 47, .t 48] [] [(5, 14905), (6, 14906)]), Qm 41 49, Qx 50 0 41, Qx 51 1 41, Qs 7 4 50] [[], [], [], [2], [], [2,3,4], [], lr 7, lr 8, lr 9, lr 9, lr 10] [0,2,4,5] [0,2,4,14905,14906])) (.seq (.reg [Q 53 (.bin .eql (.t 30) (kI 3)), Qm 52 53] [0,2,4,5,6,7,52] [0,2,4,7,14905,14906])
  (.cond (.t 52) (.shut [14905,14906] (.regd [QL 55 7 4, Qm 56 6, Qm 57 0, Q 58 (.call 125 [.t 57, kI 8] [0] []), QL 59 2 7, Q 60 (.call 84 [.t 55, .t 56, .t 58, .t 59] [] [(5, 14905), (6, 14906)]), Qm 54 60, Qx 61 0 54,
    Qx 62 1 54, Qs 7 4 61] [[], [], [], [2], [], lr 5, lr 6, lr 7, lr 7, lr 8] [0,2,4,5] [0,2,4,14905,14906])) (.shut [14905,14906] (.reg [QL 32 7 4, Qm 33 6, Q 34 (.call 86 [.t 32, .t 33] [] [(5, 14905), (6, 14906)]), Qm 31 34, Qx 35 0 31, Qx 36 1 31, Qs 7 4 35] [0,2,4,5] [0,2,4,14905,14906])))))))))))
  (.reg [Qm 22 5, Q 23 (.bin .add (.t 22) (kI 1)), Qm 5 23] [0,2,4,5] [0,2,4,14905,14906]))
def spec_l06Box.b : C := .seq (.reg [Q 2 (.alloc [.int .i64 0, .str ⟨#[]⟩, .int .i64 0, .int .i64 0, .int .i64 0, .nils 4, .nils 1])] [0,2] [0,2,14905,14906])
  (.seq (.reg [Qm 8 0, Q 9 (.call 232 [.t 8] [0] []), Q 3 (.alloc [.int .i64 0, .int .i64 0]), Qs 2 3 9] [0,2,3] [0,2,3,14905,14906])
  (.seq (.regd [Qm 10 0, Q 11 (.bslf 1 3 [.str ⟨#[]⟩] [(0, .k (.str ⟨#[105,110,98,111,120]⟩)), (1, .k (.str ⟨#[119,111,114,107]⟩)), (2, .k (.str ⟨#[111,108,100,57]⟩))]),
    Q 12 (.call 185 [.t 10, .t 11] [0] []), QL 13 2 3, Qm 14 0, Q 15 (.call 125 [.t 14, kI 4] [0] []), Q 16 (.bin .add (kI 1) (.t 15)),
    Q 17 (.build [.int .i64 0, .str ⟨#[]⟩, .int .i64 0, .int .i64 0, .int .i64 0, .nils 4, .nils 1] [(0, 1, kI 7), (1, 1, .t 12), (2, 2, .t 13), (4, 1, .t 16)]),
    Q 4 (.alloc [.int .i64 0, .str ⟨#[]⟩, .int .i64 0, .int .i64 0, .int .i64 0, .nils 4, .nils 1]), Qs 7 4 17] [[], [], [0,1], [], [], [0,1,2,4], [0,1,2,4,5], lr 7, [], lr 9] [0,2,4] [0,2,4,14905,14906])
  (.seq (.seq (.reg [Qi 5 0] [0,2,4,5] [0,2,4,14905,14906])
  (.block 0 (.loop spec_l06Box.l0)))
  (.seq (.reg [QL 63 7 4, Qs 7 2 63] [2] [0,2,14905,14906])
  (.ret)))))
def spec_l06Box.m : Fn := { np := 1, body := spec_l06Box.b, res := [.cell 2 true 7] }
def spec_l06Box.k (M : Nat → Option Body) : Prop := M 154 = some (.code spec_l06Box.m) ∧ spec_AddMail.k M ∧ spec_FlagMail.k M ∧ spec_TakeOut.k M ∧ spec_l01Below.k M ∧ spec_l05Text.k M ∧ spec_l01Pick.k M ∧ spec_l03Stamp.k M
end Mx

namespace Mx
open Go
def laws_big.b : C := .seq (.reg [Qb 2 false] [0] [])
  (.seq (.reg [Qm 3 0, Q 4 (.len (.t 3)), Q 5 (.bin .gtr (.t 4) (kI 1048576)), Qm 2 5] [2] [])
  (.ret))
def laws_big.m : Fn := { np := 1, body := laws_big.b, res := [.tmp 2] }
def laws_big.k (M : Nat → Option Body) : Prop := M 36 = some (.code laws_big.m)
end Mx

namespace Mx
open Go
def spec_l01PickInt.b : C := .seq (.reg [Qi 4 0] [0,1] [0])
  (.seq (.reg [Qm 5 1, Qm 6 0, Qm 7 1, Q 8 (.len (.t 7)), Q 9 (.call 125 [.t 6, .t 8] [0] []), Qa 10 1 5 9, Ql 11 10, Qm 4 11] [4] [0])
  (.ret))
def spec_l01PickInt.m : Fn := { np := 2, body := spec_l01PickInt.b, res := [.tmp 4] }
def spec_l01PickInt.k (M : Nat → Option Body) : Prop := M 179 = some (.code spec_l01PickInt.m) ∧ spec_l01Below.k M
def spec_l01Once.b : C := .seq (.reg [Qb 4 false] [0,1] [0])
  (.seq (.reg [Qm 5 0, Qm 6 1, Q 7 (.call 125 [.t 5, .t 6] [0] []), Q 8 (.bin .eql (.t 7) (kI 0)), Qm 4 8] [4] [0])
  (.ret))
def spec_l01Once.m : Fn := { np := 2, body := spec_l01Once.b, res := [.tmp 4] }
def spec_l01Once.k (M : Nat → Option Body) : Prop := M 175 = some (.code spec_l01Once.m) ∧ spec_l01Below.k M
def spec_l01Long.l0 : C := .seq (.seq (.reg [Qm 9 6, Qm 10 0, Q 11 (.bin .lss (.t 9) (.t 10))] [0,1,5,6,11] [8])
  (.cond (.t 11) (.skip) (.exit 0)))
  (.seq (.block 1 (.reg [Qm 14 5, Qm 15 6, Qm 16 1, Qa 17 1 14 15, Qs 1 17 16] [0,1,5,6] [8]))
  (.reg [Qm 12 6, Q 13 (.bin .add (.t 12) (kI 1)), Qm 6 13] [0,1,5,6] [8]))
def spec_l01Long.b : C := .seq (.reg [Q 4 (.mv (.k (.str ⟨#[]⟩)))] [0,1] [])
  (.seq (.reg [Qm 7 0, Q 8 (.mks 1 1 [.int .u8 0] (.t 7)), Qm 5 8] [0,1,5] [8])
  (.seq (.seq (.reg [Qi 6 0] [0,1,5,6] [8])
  (.block 0 (.loop spec_l01Long.l0)))
  (.seq (.reg [Qm 18 5, Q 19 (.b2s (.t 18)), Qm 4 19] [4] [])
  (.ret))))
def spec_l01Long.m : Fn := { np := 2, body := spec_l01Long.b, res := [.tmp 4] }
def spec_l01Long.k (M : Nat → Option Body) : Prop := M 176 = some (.code spec_l01Long.m)
def spec_l03Any.b : C := .seq (.reg [Q 2 (.alloc [.int .i64 0, .int .i64 0])] [0,2] [0,2])
  (.seq (.reg [Qm 4 0, Q 5 (.call 232 [.t 4] [0] []), Q 3 (.alloc [.int .i64 0, .int .i64 0]), Qs 2 3 5] [0,2,3] [0,2,3])
  (.seq (.seq (.reg [Qm 6 0, Q 7 (.call 125 [.t 6, kI 8] [0] [])] [0,2,3,7] [0,2,3])
  (.block 0 (.seq (.reg [Q 9 (.bin .eql (.t 7) (kI 0)), Qm 8 9] [0,2,3,7,8] [0,2,3])
  (.cond (.t 8) (.reg [Qm 10 0, Q 11 (.bslf 1 3 [.int .i64 0] [(0, kI (-1)), (1, kI 100000), (2, kI 100001)]), Q 12 (.call 179 [.t 10, .t 11] [0] []), Qf 13 0 3, Qs 1 13 12] [2,3] [0,2,3]) (.seq (.reg [Q 15 (.bin .eql (.t 7) (kI 1)), Qm 14 15] [0,2,3,14] [0,2,3])
  (.cond (.t 14) (.reg [Qm 16 0, Q 17 (.bslf 1 3 [.int .i64 0] [(0, kI (-1)), (1, kI 0), (2, kI 3)]), Q 18 (.call 179 [.t 16, .t 17] [0] []), Qf 19 1 3, Qs 1 19 18] [2,3] [0,2,3]) (.skip)))))))
  (.seq (.reg [QL 20 2 3, Qs 2 2 20] [2] [0,2])
  (.ret))))
def spec_l03Any.m : Fn := { np := 1, body := spec_l03Any.b, res := [.cell 2 true 2] }
def spec_l03Any.k (M : Nat → Option Body) : Prop := M 177 = some (.code spec_l03Any.m) ∧ spec_l01Below.k M ∧ spec_l01PickInt.k M ∧ spec_l03Stamp.k M
def spec_l03Reg.b : C := .seq (.reg [Q 2 (.alloc [.int .i64 0, .int .i64 0, .int .i64 0])] [0,2] [0,2])
  (.seq (.reg [Qm 4 0, Q 5 (.call 177 [.t 4] [0] []), Q 3 (.alloc [.int .i64 0, .int .i64 0]), Qs 2 3 5] [0,2,3] [0,2,3])
  (.seq (.regd [Qm 6 0, Q 7 (.bslf 1 6 [.int .i64 0] [(0, kI 0), (1, kI 1), (2, kI 1), (3, kI 7), (4, kI (-1)), (5, kI 1000000001)]), Q 8 (.call 179 [.t 6, .t 7] [0] []), QL 9 2 3,
    Q 10 (.build [.int .i64 0, .int .i64 0, .int .i64 0] [(0, 1, .t 8), (1, 2, .t 9)]), Qs 3 2 10] [[], [], [0,1], [], lr 4, lr 5] [2] [0,2])
  (.ret)))
def spec_l03Reg.m : Fn := { np := 1, body := spec_l03Reg.b, res := [.cell 2 true 3] }
def spec_l03Reg.k (M : Nat → Option Body) : Prop := M 299 = some (.code spec_l03Reg.m) ∧ spec_l03Any.k M ∧ spec_l01PickInt.k M
def spec_l04Flags.l0 : C := .seq (.seq (.reg [Qm 7 4, Q 8 (.bin .lss (.t 7) (kI 3))] [0,3,4,8] [0,6,19])
  (.cond (.t 8) (.skip) (.exit 0)))
  (.seq (.block 1 (.seq (.reg [Qm 11 0, Q 12 (.call 232 [.t 11] [0] []), Q 5 (.alloc [.int .i64 0, .int .i64 0]), Qs 2 5 12] [0,3,4,5] [0,5,6,19])
  (.regd [Qm 13 3, Qm 14 0, Q 15 (.call 125 [.t 14, kI 2] [0] []), QL 16 2 5, Q 17 (.build [.int .i64 0, .int .i64 0, .int .i64 0] [(0, 1, .t 15), (1, 2, .t 16)]),
    Q 18 (.bslice 3 1 [.int .i64 0, .int .i64 0, .int .i64 0] [(0, .t 17)]), Q 19 (.app 3 24 (.t 13) (.t 18)), Qm 3 19] [[], [], [1], [], [1,2,3], [1,2,3,4], lr 6, lr 7] [0,3,4] [0,6,19])))
  (.reg [Qm 9 4, Q 10 (.bin .add (.t 9) (kI 1)), Qm 4 10] [0,3,4] [0,6,19]))
def spec_l04Flags.b : C := .seq (.reg [Q 2 (.nil 3)] [0] [0])
  (.seq (.reg [Q 6 (.bslice 3 0 [.int .i64 0, .int .i64 0, .int .i64 0] []), Qm 3 6] [0,3] [0,6,19])
  (.seq (.seq (.reg [Qi 4 0] [0,3,4] [0,6,19])
  (.block 0 (.loop spec_l04Flags.l0)))
  (.seq (.reg [Qm 20 3, Qm 2 20] [2] [0,2,6,19])
  (.ret))))
def spec_l04Flags.m : Fn := { np := 1, body := spec_l04Flags.b, res := [.tmp 2] }
def spec_l04Flags.k (M : Nat → Option Body) : Prop := M 298 = some (.code spec_l04Flags.m) ∧ spec_l01Below.k M ∧ spec_l03Stamp.k M
def spec_l04Any.b : C := .seq (.reg [Q 2 (.nil 3)] [0] [0])
  (.seq (.reg [Qm 5 0, Q 6 (.call 125 [.t 5, kI 10] [0] []), Qm 3 6] [0,3] [0])
  (.seq (.reg [Qm 7 0, Q 8 (.call 298 [.t 7] [0] [(0, 10800)]), Qm 4 8] [0,3,4] [0,15,10800])
  (.seq (.seq (.reg [Qm 9 3] [0,4,9] [0,15,10800])
  (.block 0 (.seq (.reg [Q 11 (.bin .eql (.t 9) (kI 0)), Qm 10 11] [0,4,9,10] [0,15,10800])
  (.cond (.t 10) (.reg [Qm 12 4, Q 13 (.build [.int .i64 0, .int .i64 0, .int .i64 0] []), Q 14 (.bslice 3 1 [.int .i64 0, .int .i64 0, .int .i64 0] [(0, .t 13)]), Q 15 (.app 3 24 (.t 12) (.t 14)),
    Qm 4 15] [4] [0,15,10800]) (.seq (.reg [Q 17 (.bin .eql (.t 9) (kI 1)), Qm 16 17] [0,4,9,16] [0,15,10800])
  (.cond (.t 16) (.reg [Qm 18 4, Q 19 (.slc 3 (.t 18) (some (kI 1)) none none), Qm 4 19] [4] [0,15,10800]) (.seq (.reg [Q 21 (.bin .eql (.t 9) (kI 2)), Qm 20 21] [0,4,20] [0,15,10800])
  (.cond (.t 20) (.reg [Qm 22 4, Qm 23 0, Q 24 (.call 125 [.t 23, kI 3] [0] []), Qm 25 0, Q 26 (.call 299 [.t 25] [0] []), Qa 27 3 22 24, Qs 3 27 26] [4] [0,15,10800]) (.skip)))))))))
  (.seq (.shut [15,10800] (.reg [Qm 28 4, Qm 2 28] [2] [0,2,15,10800]))
  (.ret)))))
def spec_l04Any.m : Fn := { np := 1, body := spec_l04Any.b, res := [.tmp 2] }
def spec_l04Any.k (M : Nat → Option Body) : Prop := M 274 = some (.code spec_l04Any.m) ∧ spec_l01Below.k M ∧ spec_l04Flags.k M ∧ spec_l03Reg.k M
def spec_l05Mail.b : C := .seq (.reg [Q 2 (.alloc [.int .i64 0, .int .i64 0, .nils 3, .str ⟨#[]⟩])] [0,2] [0,2,11300])
  (.seq (.reg [Qm 6 0, Q 7 (.call 125 [.t 6, kI 6] [0] []), Q 8 (.bin .add (kI 1) (.t 7)), Qm 3 8] [0,2,3] [0,2,11300])
  (.seq (.reg [Qm 9 0, Q 10 (.call 125 [.t 9, kI 6] [0] []), Q 11 (.bin .add (kI 1) (.t 10)), Qm 4 11] [0,2,3,4] [0,2,11300])
  (.seq (.reg [Qm 12 0, Q 13 (.call 298 [.t 12] [0] [(0, 11300)]), Qm 5 13] [0,2,3,4,5] [0,2,11300])
  (.seq (.reg [Qm 14 3, Qm 15 4, Qm 16 5, Qm 17 0, Q 18 (.call 174 [.t 17] [0] []),
    Q 19 (.build [.int .i64 0, .int .i64 0, .nils 3, .str ⟨#[]⟩] [(0, 1, .t 14), (1, 1, .t 15), (2, 1, .t 16), (3, 1, .t 18)]), Qs 4 2 19] [2] [0,2,11300])
  (.ret)))))
def spec_l05Mail.m : Fn := { np := 1, body := spec_l05Mail.b, res := [.cell 2 true 4] }
def spec_l05Mail.k (M : Nat → Option Body) : Prop := M 273 = some (.code spec_l05Mail.m) ∧ spec_l01Below.k M ∧ spec_l05Text.k M ∧ spec_l04Flags.k M
def spec_l05Any.b : C := .seq (.reg [Q 2 (.alloc [.int .i64 0, .int .i64 0, .nils 3, .str ⟨#[]⟩])] [0,2] [0,2,11102,13200])
  (.seq (.reg [Qm 6 0, Q 7 (.call 125 [.t 6, kI 10] [0] []), Qm 3 7] [0,2,3] [0,2,11102,13200])
  (.seq (.reg [Qm 8 0, Q 9 (.call 125 [.t 8, kI 60] [0] []), Qm 4 9] [0,2,3,4] [0,2,11102,13200])
  (.seq (.reg [Qm 10 0, Q 11 (.call 273 [.t 10] [0] []), Q 5 (.alloc [.int .i64 0, .int .i64 0, .nils 3, .str ⟨#[]⟩]), Qs 4 5 11] [0,2,3,4,5] [0,2,5,11102,13200])
  (.seq (.seq (.reg [Qm 12 3] [0,2,4,5,12] [0,2,5,11102,13200])
  (.block 0 (.seq (.reg [Q 14 (.bin .eql (.t 12) (kI 0)), Qm 13 14] [0,2,4,5,12,13] [0,2,5,11102,13200])
  (.cond (.t 13) (.reg [Q 15 (.bslice 1 4 [.int .i64 0] [(0, kI 0), (1, kI 9999), (2, kI 10000), (3, kI (-1))]), Qm 16 4, Q 17 (.bin .rem (.t 16) (kI 4)), Qa 18 1 15 17, Ql 19 18, Qf 20 0 5, Qs 1 20 19] [2,5] [0,2,5,11102,13200]) (.seq (.reg [Q 22 (.bin .eql (.t 12) (kI 1)), Qm 21 22] [0,2,4,5,12,21] [0,2,5,11102,13200])
  (.cond (.t 21) (.reg [Q 23 (.bslice 1 3 [.int .i64 0] [(0, kI 0), (1, kI 9999), (2, kI 10000)]), Qm 24 4, Q 25 (.bin .rem (.t 24) (kI 3)), Qa 26 1 23 25, Ql 27 26, Qf 28 1 5, Qs 1 28 27] [2,5] [0,2,5,11102,13200]) (.seq (.reg [Q 30 (.bin .eql (.t 12) (kI 2)), Qm 29 30] [0,2,4,5,12,29] [0,2,5,11102,13200])
  (.cond (.t 29) (.reg [Qm 31 0, Q 32 (.call 274 [.t 31] [0] []), Qf 33 2 5, Qs 1 33 32] [2,5] [0,2,5,11102,13200]) (.seq (.reg [Q 35 (.bin .eql (.t 12) (kI 3)), Qm 34 35] [2,4,5,34] [0,2,5,11102,13200])
  (.cond (.t 34) (.reg [Qm 36 4, Q 37 (.bin .rem (.t 36) (kI 2)), Q 38 (.bin .add (kI 60) (.t 37)), Q 39 (.call 176 [.t 38, .k (.int .u8 97)] [] []), Qf 40 3 5, Qs 1 40 39] [2,5] [0,2,5,11102,13200]) (.skip)))))))))))
  (.seq (.reg [QL 41 4 5, Qs 4 2 41] [2] [0,2,11102,13200])
  (.ret))))))
def spec_l05Any.m : Fn := { np := 1, body := spec_l05Any.b, res := [.cell 2 true 4] }
def spec_l05Any.k (M : Nat → Option Body) : Prop := M 237 = some (.code spec_l05Any.m) ∧ spec_l01Below.k M ∧ spec_l01Long.k M ∧ spec_l05Mail.k M ∧ spec_l04Any.k M
def spec_l06Any.b : C := .seq (.reg [Q 2 (.alloc [.int .i64 0, .str ⟨#[]⟩, .int .i64 0, .int .i64 0, .int .i64 0, .nils 4, .nils 1])] [0,2] [0,2,39,47,11205,11206])
  (.seq (.reg [Qm 6 0, Q 7 (.call 125 [.t 6, kI 14] [0] []), Qm 3 7] [0,2,3] [0,2,39,47,11205,11206])
  (.seq (.reg [Qm 8 0, Q 9 (.call 125 [.t 8, kI 60] [0] []), Qm 4 9] [0,2,3,4] [0,2,39,47,11205,11206])
  (.seq (.reg [Qm 10 0, Q 11 (.call 154 [.t 10] [0] []), Q 12 (.call 180 [.t 11] [] [(5, 11205), (6, 11206)]),
    Q 5 (.alloc [.int .i64 0, .str ⟨#[]⟩, .int .i64 0, .int .i64 0, .int .i64 0, .nils 4, .nils 1]), Qs 7 5 12] [0,2,3,4,5] [0,2,5,39,47,11205,11206])
  (.seq (.seq (.reg [Qm 13 3] [0,2,4,5,13] [0,2,5,39,47,11205,11206])
  (.block 0 (.seq (.reg [Q 15 (.bin .eql (.t 13) (kI 0)), Qm 14 15] [0,2,4,5,13,14] [0,2,5,39,47,11205,11206])
  (.cond (.t 14) (.reg [Qm 16 4, Q 17 (.bin .rem (.t 16) (kI 3)), Qf 18 0 5, Qs 1 18 17] [2,5] [0,2,5,39,47,11205,11206]) (.seq (.reg [Q 20 (.bin .eql (.t 13) (kI 1)), Qm 19 20] [0,2,4,5,13,19] [0,2,5,39,47,11205,11206])
  (.cond (.t 19) (.reg [Q 21 (.bslice 1 3 [.str ⟨#[]⟩] [(0, .k (.str ⟨#[]⟩)), (1, .k (.str ⟨#[65]⟩)), (2, .k (.str ⟨#[116,104,105,114,116,101,101,110,115,105,103,110,115]⟩))]), Qm 22 4,
    Q 23 (.bin .rem (.t 22) (kI 3)), Qa 24 1 21 23, Ql 25 24, Qf 26 1 5, Qs 1 26 25] [2,5] [0,2,5,39,47,11205,11206]) (.seq (.reg [Q 28 (.bin .eql (.t 13) (kI 2)), Qm 27 28] [0,2,4,5,13,27] [0,2,5,39,47,11205,11206])
  (.cond (.t 27) (.reg [Qm 29 4, Q 30 (.bin .rem (.t 29) (kI 5)), Qf 31 4 5, Qs 1 31 30] [2,5] [0,2,5,39,47,11205,11206]) (.seq (.reg [Q 33 (.bin .eql (.t 13) (kI 3)), Qm 32 33] [0,2,4,5,13,32] [0,2,5,39,47,11205,11206])
  (.cond (.t 32) (.regd [Qf 34 5 5, Ql 35 34, Qm 36 0, Q 37 (.call 237 [.t 36] [0] []), Q 38 (.bslice 4 1 [.int .i64 0, .int .i64 0, .nils 3, .str ⟨#[]⟩] [(0, .t 37)]), Q 39 (.app 4 56 (.t 35) (.t 38)),
    Qf 40 5 5, Qs 1 40 39] [[], [0], [], [2], [2,3], lr 5, lr 6, lr 7] [2,5] [0,2,5,39,47,11205,11206]) (.seq (.reg [Q 42 (.bin .eql (.t 13) (kI 4)), Qm 41 42] [0,2,4,5,13,41] [0,2,5,39,47,11205,11206])
  (.cond (.t 41) (.reg [Qf 43 6 5, Ql 44 43, Qm 45 4, Q 46 (.bslice 1 1 [.int .i64 0] [(0, .t 45)]), Q 47 (.app 1 8 (.t 44) (.t 46)), Qf 48 6 5, Qs 1 48 47] [2,5] [0,2,5,39,47,11205,11206]) (.seq (.reg [Q 50 (.bin .eql (.t 13) (kI 5)), Qm 49 50] [0,2,5,49] [0,2,5,39,47,11205,11206])
  (.cond (.t 49) (.reg [Qm 51 0, Q 52 (.call 177 [.t 51] [0] []), Qf 53 2 5, Qs 2 53 52] [2,5] [0,2,5,39,47,11205,11206]) (.skip)))))))))))))))
  (.seq (.reg [QL 54 7 5, Qs 7 2 54] [2] [0,2,39,47,11205,11206])
  (.ret))))))
def spec_l06Any.m : Fn := { np := 1, body := spec_l06Any.b, res := [.cell 2 true 7] }
def spec_l06Any.k (M : Nat → Option Body) : Prop := M 173 = some (.code spec_l06Any.m) ∧ spec_l01Below.k M ∧ spec_l06Box.k M ∧ spec_l03Any.k M ∧ spec_l06Copy.k M ∧ spec_l05Any.k M
end Mx

namespace Mx
open Go
def spec_StoreNew.b : C := .seq (.reg [Q 2 (.alloc [.int .i64 0, .int .i64 0, .nils 7, .nils 1])] [0,2] [2])
  (.seq (.reg [Qm 3 0, Q 4 (.build [.int .i64 0, .int .i64 0, .nils 7, .nils 1] [(0, 1, .t 3)]), Qs 4 2 4] [2] [2])
  (.ret))
def spec_StoreNew.m : Fn := { np := 1, body := spec_StoreNew.b, res := [.cell 2 true 4] }
def spec_StoreNew.k (M : Nat → Option Body) : Prop := M 113 = some (.code spec_StoreNew.m)
def spec_l07Use.br : C := .seq (.reg [Qm 59 10, Q 60 (.bin .eql (.t 59) (kI 0)), Qm 61 60, Qg 62 (.mv (.t 13)) 61 false, Qg 63 (.bin .eql (.t 62) (kI 0)) 61 false, Q 64 (.pick (.t 61) (kB true) (.t 63)), Qm 58 64] [0,2,3,5,8,9,10,11,13,58] [0,5,8,15502,15503])
  (.cond (.t 58) (.shut [15502,15503] (.regd [QL 66 4 5, Qm 67 3, Qm 68 9, Q 69 (.bin .add (.t 67) (.t 68)), Qm 70 0,
    Q 71 (.bslf 1 3 [.str ⟨#[]⟩] [(0, .k (.str ⟨#[105,110,98,111,120]⟩)), (1, .k (.str ⟨#[119,111,114,107]⟩)), (2, .k (.str ⟨#[111,108,100]⟩))]),
    Q 72 (.call 185 [.t 70, .t 71] [0] []), Q 73 (.call 278 [.t 66, .t 69, .t 72] [] [(2, 15502), (3, 15503)]), Qm 65 73, Qx 74 0 65, Qx 75 1 65, Qs 4 5 74] [[], [], [], [1,2], [], [], [4,5], lr 7, lr 8, lr 9, lr 9, lr 10] [0,2,3,5,8,9] [0,5,8,15502,15503])) (.seq (.reg [Qm 77 13, Q 78 (.bin .lss (.t 77) (kI 6)), Qm 76 78] [0,2,3,5,8,9,10,11,13,76] [0,5,8,15502,15503])
  (.cond (.t 76) (.shut [15502,15503] (.regd [QL 80 4 5, Qm 81 10, Qm 82 3, Qm 83 9, Q 84 (.bin .add (.t 82) (.t 83)), Qm 85 0, Q 86 (.call 125 [.t 85, kI 8] [0] []), Qm 87 0, Q 88 (.call 174 [.t 87] [0] []),
    Q 89 (.call 279 [.t 80, .t 81, .t 84, .t 86, .t 88] [] [(2, 15502), (3, 15503)]), Qm 79 89, Qx 90 0 79, Qx 91 1 79, Qs 4 5 90] [[], [], [], [], [2,3], [], [5], [], [5,6,7], lr 9, lr 10, lr 11, lr 11, lr 12] [0,2,3,5,8,9] [0,5,8,15502,15503])) (.seq (.reg [Qm 93 13, Q 94 (.bin .lss (.t 93) (kI 9)), Qm 92 94] [0,2,3,5,8,9,10,11,13,92] [0,5,8,15502,15503])
  (.cond (.t 92) (.shut [15502,15503] (.regd [QL 96 4 5, Qm 97 10, Qm 98 11, Qm 99 0, Q 100 (.call 125 [.t 99, kI 8] [0] []), Q 101 (.call 280 [.t 96, .t 97, .t 98, .t 100] [] [(2, 15502), (3, 15503)]), Qm 95 101, Qx 102 0 95,
    Qx 103 1 95, Qs 4 5 102] [[], [], [], [], [3], lr 5, lr 6, lr 7, lr 7, lr 8] [0,2,3,5,8,9] [0,5,8,15502,15503])) (.seq (.reg [Qm 105 13, Q 106 (.bin .eql (.t 105) (kI 9)), Qm 104 106] [0,2,3,5,8,9,10,11,13,104] [0,5,8,15502,15503])
  (.cond (.t 104) (.shut [15502,15503] (.reg [QL 108 4 5, Qm 109 10, Qm 110 11, Q 111 (.call 281 [.t 108, .t 109, .t 110] [] [(2, 15502), (3, 15503)]), Qm 107 111, Qx 112 0 107, Qx 113 1 107, Qs 4 5 112] [0,2,3,5,8,9] [0,5,8,15502,15503])) (.seq (.reg [Qm 115 13, Q 116 (.bin .eql (.t 115) (kI 10)), Qm 114 116] [0,2,3,5,8,9,10,114] [0,5,8,15502,15503])
  (.cond (.t 114) (.shut [15502,15503] (.regd [QL 118 4 5, Qm 119 10, Qm 120 0,
    Q 121 (.bslf 1 4 [.str ⟨#[]⟩] [(0, .k (.str ⟨#[105,110,98,111,120]⟩)), (1, .k (.str ⟨#[119,111,114,107]⟩)), (2, .k (.str ⟨#[110,101,119]⟩)), (3, .k (.str ⟨#[111,116,104,101,114]⟩))]),
    Q 122 (.call 185 [.t 120, .t 121] [0] []), Q 123 (.call 282 [.t 118, .t 119, .t 122] [] [(2, 15502), (3, 15503)]), Qm 117 123, Qx 124 0 117, Qx 125 1 117, Qs 4 5 124] [[], [], [], [], [2,3], lr 5, lr 6, lr 7, lr 7, lr 8] [0,2,3,5,8,9] [0,5,8,15502,15503])) (.seq (.reg [Qm 50 0, Q 51 (.call 175 [.t 50, kI 3] [0] [])] [0,2,3,5,8,9,10,51] [0,5,8,15502,15503])
  (.cond (.t 51) (.shut [15502,15503] (.reg [QL 53 4 5, Qm 54 10, Q 55 (.call 283 [.t 53, .t 54] [] [(2, 15502), (3, 15503)]), Qm 52 55, Qx 56 0 52, Qx 57 1 52, Qs 4 5 56] [0,2,3,5,8,9] [0,5,8,15502,15503])) (.skip))))))))))))
def spec_l07Use.hd : C := .seq (.seq (.reg [Qf 19 2 5, Ql 20 19, Q 21 (.len (.t 20)), Q 22 (.bin .gtr (.t 21) (kI 0))] [0,2,3,5,8,9,10,11,22] [0,5,8,15502,15503])
  (.cond (.t 22) (.seq (.regd [Qf 23 2 5, Ql 24 23, Qm 25 0, Qf 26 2 5, Ql 27 26, Q 28 (.len (.t 27)), Q 29 (.call 125 [.t 25, .t 28] [0] []), Qa 30 7 24 29, QL 31 7 30,
    Q 12 (.alloc [.int .i64 0, .str ⟨#[]⟩, .int .i64 0, .int .i64 0, .int .i64 0, .nils 4, .nils 1]), Qs 7 12 31] [[], [0], [], [], [3], [3,4], [2,3,4,5], lr 7, lr 8, [], lr 10] [0,2,3,5,8,9,11,12] [0,5,8,12,15502,15503])
  (.seq (.reg [Qf 32 0 12, Ql 33 32, Qm 10 33] [0,2,3,5,8,9,10,11,12] [0,5,8,12,15502,15503])
  (.seq (.reg [Qf 34 5 12, Ql 35 34, Q 36 (.len (.t 35)), Q 37 (.bin .gtr (.t 36) (kI 0))] [0,2,3,5,8,9,10,11,12,37] [0,5,8,12,15502,15503])
  (.cond (.t 37) (.regd [Qf 38 5 12, Ql 39 38, Qm 40 0, Qf 41 5 12, Ql 42 41, Q 43 (.len (.t 42)), Q 44 (.call 125 [.t 40, .t 43] [0] []), Qa 45 4 39 44, Qf 46 0 45, Ql 47 46, Qm 11 47] [[], [0], [], [], [3], [3,4], [2,3,4,5], lr 7, lr 8, lr 9, lr 10] [0,2,3,5,8,9,10,11] [0,5,8,15502,15503]) (.skip))))) (.skip)))
  (.seq (.reg [Qm 48 0, Q 49 (.call 125 [.t 48, kI 12] [0] []), Qm 13 49] [0,2,3,5,8,9,10,11,13] [0,5,8,15502,15503])
  (.block 2 spec_l07Use.br))
def spec_l07Use.l0 : C := .seq (.seq (.reg [Qm 14 9, Qm 15 2, Q 16 (.bin .lss (.t 14) (.t 15))] [0,2,3,5,8,9,16] [0,5,8,15502,15503])
  (.cond (.t 16) (.skip) (.exit 0)))
  (.seq (.block 1 (.seq (.reg [Qi 10 0] [0,2,3,5,8,9,10] [0,5,8,15502,15503])
  (.seq (.reg [Qi 11 0] [0,2,3,5,8,9,10,11] [0,5,8,15502,15503])
  spec_l07Use.hd)))
  (.reg [Qm 17 9, Q 18 (.bin .add (.t 17) (kI 1)), Qm 9 18] [0,2,3,5,8,9] [0,5,8,15502,15503]))
def spec_l07Use.b : C := .seq (.reg [Qv 5 1, Q 8 (.alloc [.int .i64 0, .int .i64 0, .nils 7, .nils 1])] [0,2,3,5,8] [0,5,8,15502,15503])
  (.seq (.seq (.reg [Qi 9 0] [0,2,3,5,8,9] [0,5,8,15502,15503])
  (.block 0 (.loop spec_l07Use.l0)))
  (.seq (.reg [QL 126 4 5, Qs 4 8 126] [8] [0,8,15502,15503])
  (.ret)))
def spec_l07Use.m : Fn := { np := 4, body := spec_l07Use.b, res := [.cell 8 true 4] }
def spec_l07Use.k (M : Nat → Option Body) : Prop := M 244 = some (.code spec_l07Use.m) ∧ spec_l01Below.k M ∧ spec_l05Text.k M ∧ spec_l01Once.k M ∧ spec_l01Pick.k M ∧ spec_MakeBox.k M ∧ spec_PutMail.k M ∧ spec_MarkMail.k M ∧ spec_DropMail.k M ∧ spec_RenameBox.k M ∧ spec_DropBox.k M
def spec_l07Store.b : C := .seq (.reg [Q 2 (.alloc [.int .i64 0, .int .i64 0, .nils 7, .nils 1])] [0,2] [0,2,11302,11303])
  (.seq (.reg [Qm 4 0, Q 5 (.call 125 [.t 4, kI 12] [0] []), Q 6 (.bin .add (kI 2) (.t 5)), Qm 3 6] [0,2,3] [0,2,11302,11303])
  (.seq (.reg [Qm 7 0, Qm 8 0, Q 9 (.call 125 [.t 8, kI 2] [0] []), Q 10 (.bin .add (kI 1) (.t 9)), Q 11 (.call 113 [.t 10] [] []), Qm 12 3,
    Q 13 (.call 244 [.t 7, .t 11, .t 12, kI 100] [0] [(2, 11302), (3, 11303)]), Qs 4 2 13] [2] [0,2,11302,11303])
  (.ret)))
def spec_l07Store.m : Fn := { np := 1, body := spec_l07Store.b, res := [.cell 2 true 4] }
def spec_l07Store.k (M : Nat → Option Body) : Prop := M 188 = some (.code spec_l07Store.m) ∧ spec_StoreNew.k M ∧ spec_l01Below.k M ∧ spec_l07Use.k M
def spec_l07Any.b : C := .seq (.reg [Q 2 (.alloc [.int .i64 0, .int .i64 0, .nils 7, .nils 1])] [0,2] [0,2,44,11202,11203])
  (.seq (.reg [Qm 6 0, Q 7 (.call 125 [.t 6, kI 14] [0] []), Qm 3 7] [0,2,3] [0,2,44,11202,11203])
  (.seq (.reg [Qm 8 0, Q 9 (.call 125 [.t 8, kI 60] [0] []), Qm 4 9] [0,2,3,4] [0,2,44,11202,11203])
  (.seq (.reg [Qm 10 0, Q 11 (.call 188 [.t 10] [0] []), Q 12 (.call 219 [.t 11] [] [(2, 11202), (3, 11203)]), Q 5 (.alloc [.int .i64 0, .int .i64 0, .nils 7, .nils 1]), Qs 4 5 12] [0,2,3,4,5] [0,2,5,44,11202,11203])
  (.seq (.seq (.reg [Qm 13 3] [0,2,4,5,13] [0,2,5,44,11202,11203])
  (.block 0 (.seq (.reg [Q 15 (.bin .eql (.t 13) (kI 0)), Qm 14 15] [0,2,4,5,13,14] [0,2,5,44,11202,11203])
  (.cond (.t 14) (.reg [Qm 16 4, Q 17 (.bin .rem (.t 16) (kI 4)), Qf 18 0 5, Qs 1 18 17] [2,5] [0,2,5,44,11202,11203]) (.seq (.reg [Q 20 (.bin .eql (.t 13) (kI 1)), Qm 19 20] [0,2,4,5,13,19] [0,2,5,44,11202,11203])
  (.cond (.t 19) (.reg [Q 21 (.bslice 1 4 [.int .i64 0] [(0, kI (-1)), (1, kI 0), (2, kI 100000), (3, kI 100001)]), Qm 22 4, Q 23 (.bin .rem (.t 22) (kI 4)), Qa 24 1 21 23, Ql 25 24, Qf 26 1 5, Qs 1 26 25] [2,5] [0,2,5,44,11202,11203]) (.seq (.reg [Q 28 (.bin .eql (.t 13) (kI 2)), Qm 27 28] [0,2,4,5,13,27] [0,2,5,44,11202,11203])
  (.cond (.t 27) (.seq (.reg [Qf 29 2 5, Ql 30 29, Q 31 (.len (.t 30)), Q 32 (.bin .gtr (.t 31) (kI 0))] [0,2,5,32] [0,2,5,44,11202,11203])
  (.cond (.t 32) (.regd [Qf 33 2 5, Ql 34 33, Qm 35 0, Q 36 (.call 173 [.t 35] [0] []), Q 37 (.iaddr 7 (.t 34) (kI 0)), Qs 7 37 36] [[], [0], [], [2], lr 4, lr 5] [2,5] [0,2,5,44,11202,11203]) (.skip))) (.seq (.reg [Q 39 (.bin .eql (.t 13) (kI 3)), Qm 38 39] [2,4,5,13,38] [0,2,5,44,11202,11203])
  (.cond (.t 38) (.reg [Qf 40 3 5, Ql 41 40, Qm 42 4, Q 43 (.bslice 1 1 [.int .i64 0] [(0, .t 42)]), Q 44 (.app 1 8 (.t 41) (.t 43)), Qf 45 3 5, Qs 1 45 44] [2,5] [0,2,5,44,11202,11203]) (.seq (.reg [Q 47 (.bin .eql (.t 13) (kI 4)), Qm 46 47] [2,5,46] [0,2,5,44,11202,11203])
  (.cond (.t 46) (.seq (.reg [Qf 48 2 5, Ql 49 48, Q 50 (.len (.t 49)), Q 51 (.bin .gtr (.t 50) (kI 1))] [2,5,51] [0,2,5,44,11202,11203])
  (.cond (.t 51) (.regd [Qf 52 2 5, Ql 53 52, Qf 54 2 5, Ql 55 54, Q 56 (.iaddr 7 (.t 55) (kI 0)), Qf 57 1 56, Ql 58 57, Q 59 (.iaddr 7 (.t 53) (kI 1)), Qf 60 1 59, Qs 1 60 58] [[], [0], [], [2], [2,3], [2,3,4], [2,3,4,5], lr 7, lr 8, lr 9] [2,5] [0,2,5,44,11202,11203]) (.skip))) (.skip)))))))))))))
  (.seq (.reg [QL 61 4 5, Qs 4 2 61] [2] [0,2,44,11202,11203])
  (.ret))))))
def spec_l07Any.m : Fn := { np := 1, body := spec_l07Any.b, res := [.cell 2 true 4] }
def spec_l07Any.k (M : Nat → Option Body) : Prop := M 443 = some (.code spec_l07Any.m) ∧ spec_l01Below.k M ∧ spec_l06Any.k M ∧ spec_l07Store.k M ∧ spec_l07Copy.k M
end Mx

namespace Mx
open Go
def spec_l01Text.l0 : C := .seq (.seq (.reg [Qm 10 6, Qm 11 1, Q 12 (.bin .lss (.t 10) (.t 11))] [0,1,5,6,12] [0,9,20])
  (.cond (.t 12) (.skip) (.exit 0)))
  (.seq (.block 1 (.reg [Qm 15 5, Qm 16 0, Q 17 (.call 131 [.t 16] [0] []), Q 18 (.i2i .u8 (.t 17)), Q 19 (.bslice 1 1 [.int .u8 0] [(0, .t 18)]), Q 20 (.app 1 1 (.t 15) (.t 19)), Qm 5 20] [0,1,5,6] [0,9,20]))
  (.reg [Qm 13 6, Q 14 (.bin .add (.t 13) (kI 1)), Qm 6 14] [0,1,5,6] [0,9,20]))
def spec_l01Text.b : C := .seq (.reg [Q 4 (.mv (.k (.str ⟨#[]⟩)))] [0,1] [0])
  (.seq (.seq (.reg [Qm 7 1, Q 8 (.bin .gtr (.t 7) (kI 5000))] [0,1,8] [0])
  (.cond (.t 8) (.reg [Qi 1 5000] [0,1] [0]) (.skip)))
  (.seq (.reg [Q 9 (.bslice 1 0 [.int .u8 0] []), Qm 5 9] [0,1,5] [0,9,20])
  (.seq (.seq (.reg [Qi 6 0] [0,1,5,6] [0,9,20])
  (.block 0 (.loop spec_l01Text.l0)))
  (.seq (.reg [Qm 21 5, Q 22 (.b2s (.t 21)), Qm 4 22] [4] [0])
  (.ret)))))
def spec_l01Text.m : Fn := { np := 2, body := spec_l01Text.b, res := [.tmp 4] }
def spec_l01Text.k (M : Nat → Option Body) : Prop := M 465 = some (.code spec_l01Text.m) ∧ spec_l01Byte.k M
def spec_l02Spoilt.b : C := .seq (.reg [Q 4 (.mv (.k (.str ⟨#[]⟩)))] [0,1] [0])
  (.seq (.seq (.reg [Qm 6 0, Q 7 (.call 125 [.t 6, kI 12] [0] [])] [0,1,7] [0])
  (.block 0 (.seq (.reg [Q 9 (.bin .eql (.t 7) (kI 0)), Qm 8 9] [0,1,7,8] [0])
  (.cond (.t 8) (.seq (.reg [Qm 10 1, Qm 11 0, Q 12 (.call 465 [.t 11, kI 1] [0] []), Q 13 (.bin .add (.t 10) (.t 12)), Qm 4 13] [4] [0])
  (.ret)) (.seq (.reg [Q 15 (.bin .eql (.t 7) (kI 1)), Qm 14 15] [0,1,7,14] [0])
  (.cond (.t 14) (.seq (.reg [Qm 16 1, Qm 17 0, Qm 18 1, Q 19 (.slen (.t 18)), Q 20 (.bin .add (.t 19) (kI 1)), Q 21 (.call 125 [.t 17, .t 20] [0] []), Q 22 (.sstr (.t 16) none (some (.t 21))), Qm 4 22] [4] [0])
  (.ret)) (.seq (.seq (.reg [Q 24 (.bin .eql (.t 7) (kI 2)), Qm 23 24] [0,1,7,23] [0])
  (.cond (.t 23) (.skip) (.reg [Q 25 (.bin .eql (.t 7) (kI 3)), Qm 23 25] [0,1,23] [0])))
  (.cond (.t 23) (.seq (.reg [Qm 26 1, Q 27 (.slen (.t 26)), Q 28 (.bin .gtr (.t 27) (kI 0))] [0,1,28] [0])
  (.cond (.t 28) (.seq (.reg [Qm 29 0, Qm 30 1, Q 31 (.slen (.t 30)), Q 32 (.call 125 [.t 29, .t 31] [0] []), Qm 5 32] [0,1,5] [0])
  (.seq (.regd [Qm 33 1, Qm 34 5, Q 35 (.sstr (.t 33) none (some (.t 34))), Qm 36 0, Q 37 (.call 465 [.t 36, kI 1] [0] []), Q 38 (.bin .add (.t 35) (.t 37)), Qm 39 1, Qm 40 5,
    Q 41 (.bin .add (.t 40) (kI 1)), Q 42 (.sstr (.t 39) (some (.t 41)) none), Q 43 (.bin .add (.t 38) (.t 42)), Qm 4 43] [[], [], [0,1], [], [3], lr 5, [], [], [7], [6,7,8], lr 10, lr 11] [4] [0])
  (.ret))) (.skip))) (.skip)))))))))
  (.seq (.reg [Qm 44 1, Qm 4 44] [4] [0])
  (.ret)))
def spec_l02Spoilt.m : Fn := { np := 2, body := spec_l02Spoilt.b, res := [.tmp 4] }
def spec_l02Spoilt.k (M : Nat → Option Body) : Prop := M 444 = some (.code spec_l02Spoilt.m) ∧ spec_l01Below.k M ∧ spec_l01Text.k M
def laws_sameAll.b : C := .seq (.reg [Qv 2 0, Qv 3 1, Qb 4 false] [2,3] [2,3])
  (.seq (.reg [Qf 5 0 2, Ql 6 5, Qf 7 0 3, Ql 8 7, Q 9 (.bin .eql (.t 6) (.t 8)), Qm 10 9, Qg 11 (.faddr 1 (.t 2)) 10 true, Qg 12 (.load false 1 (.t 11)) 10 true, Qg 13 (.faddr 1 (.t 3)) 10 true,
    Qg 14 (.load false 1 (.t 13)) 10 true, Qg 15 (.bin .eql (.t 12) (.t 14)) 10 true, Q 16 (.pick (.t 10) (.t 15) (kB false)), Qm 17 16, Qg 18 (.load true 4 (.t 2)) 17 true,
    Qg 19 (.load true 4 (.t 3)) 17 true, Qg 20 (.call 31 [.t 18, .t 19] [] []) 17 true, Q 21 (.pick (.t 17) (.t 20) (kB false)), Qm 4 21] [4] [])
  (.ret))
def laws_sameAll.m : Fn := { np := 2, body := laws_sameAll.b, res := [.tmp 4] }
def laws_sameAll.k (M : Nat → Option Body) : Prop := M 421 = some (.code laws_sameAll.m) ∧ spec_Alike.k M
end Mx

namespace Mx
open Go
def spec_l02Four.b : C := .seq (.reg [Q 2 (.mv (.k (.str ⟨#[]⟩)))] [0] [])
  (.seq (.reg [Qm 3 0, Q 4 (.bin .shr (.t 3) (.k (.int .u64 24))), Q 5 (.i2i .u8 (.t 4)), Qm 6 0, Q 7 (.bin .shr (.t 6) (.k (.int .u64 16))), Q 8 (.i2i .u8 (.t 7)), Qm 9 0,
    Q 10 (.bin .shr (.t 9) (.k (.int .u64 8))), Q 11 (.i2i .u8 (.t 10)), Qm 12 0, Q 13 (.i2i .u8 (.t 12)),
    Q 14 (.bslice 1 4 [.int .u8 0] [(0, .t 5), (1, .t 8), (2, .t 11), (3, .t 13)]), Q 15 (.b2s (.t 14)), Qm 2 15] [2] [])
  (.ret))
def spec_l02Four.m : Fn := { np := 1, body := spec_l02Four.b, res := [.tmp 2] }
def spec_l02Four.k (M : Nat → Option Body) : Prop := M 202 = some (.code spec_l02Four.m)
def impl_four.b : C := .seq (.reg [Q 2 (.mv (.k (.str ⟨#[]⟩)))] [0] [])
  (.seq (.reg [Qm 3 0, Q 4 (.bin .shr (.t 3) (.k (.int .u64 24))), Q 5 (.i2i .u8 (.t 4)), Qm 6 0, Q 7 (.bin .shr (.t 6) (.k (.int .u64 16))), Q 8 (.i2i .u8 (.t 7)), Qm 9 0,
    Q 10 (.bin .shr (.t 9) (.k (.int .u64 8))), Q 11 (.i2i .u8 (.t 10)), Qm 12 0, Q 13 (.i2i .u8 (.t 12)),
    Q 14 (.bslice 1 4 [.int .u8 0] [(0, .t 5), (1, .t 8), (2, .t 11), (3, .t 13)]), Q 15 (.b2s (.t 14)), Qm 2 15] [2] [])
  (.ret))
def impl_four.m : Fn := { np := 1, body := impl_four.b, res := [.tmp 2] }
def impl_four.k (M : Nat → Option Body) : Prop := M 204 = some (.code impl_four.m)
def spec_SumMore.l1 : C := .seq (.seq (.reg [Qm 20 6, Q 21 (.bin .lss (.t 20) (kI 8))] [0,1,5,6,21] [])
  (.cond (.t 21) (.skip) (.exit 2)))
  (.seq (.block 3 (.seq (.reg [Qm 24 0, Q 25 (.bin .rem (.t 24) (.k (.int .u32 2))), Q 26 (.bin .eql (.t 25) (.k (.int .u32 1))), Qm 7 26] [0,1,5,6,7] [])
  (.seq (.reg [Qm 27 0, Q 28 (.bin .quo (.t 27) (.k (.int .u32 2))), Qm 0 28] [0,1,5,6,7] [])
  (.seq (.reg [Qm 29 7] [0,1,5,6,29] [])
  (.cond (.t 29) (.reg [Qm 30 0, Q 31 (.bin .xor (.t 30) (.k (.int .u32 3558460437))), Qm 0 31] [0,1,5,6] []) (.skip))))))
  (.reg [Qm 22 6, Q 23 (.bin .add (.t 22) (kI 1)), Qm 6 23] [0,1,5,6] []))
def spec_SumMore.l0 : C := .seq (.seq (.reg [Qm 8 5, Qm 9 1, Q 10 (.slen (.t 9)), Q 11 (.bin .lss (.t 8) (.t 10))] [0,1,5,11] [])
  (.cond (.t 11) (.skip) (.exit 0)))
  (.seq (.block 1 (.seq (.reg [Qm 14 0, Qm 15 1, Qm 16 5, Q 17 (.idx (.t 15) (.t 16)), Q 18 (.i2i .u32 (.t 17)), Q 19 (.bin .xor (.t 14) (.t 18)), Qm 0 19] [0,1,5] [])
  (.seq (.reg [Qi 6 0] [0,1,5,6] [])
  (.block 2 (.loop spec_SumMore.l1)))))
  (.reg [Qm 12 5, Q 13 (.bin .add (.t 12) (kI 1)), Qm 5 13] [0,1,5] []))
def spec_SumMore.b : C := .seq (.reg [Q 4 (.mv (.k (.int .u32 0)))] [0,1] [])
  (.seq (.seq (.reg [Qi 5 0] [0,1,5] [])
  (.block 0 (.loop spec_SumMore.l0)))
  (.seq (.reg [Qm 32 0, Qm 4 32] [4] [])
  (.ret)))
def spec_SumMore.m : Fn := { np := 2, body := spec_SumMore.b, res := [.tmp 4] }
def spec_SumMore.k (M : Nat → Option Body) : Prop := M 248 = some (.code spec_SumMore.m)
def spec_SumOf.b : C := .seq (.reg [Q 2 (.mv (.k (.int .u32 0)))] [0] [])
  (.seq (.reg [Qm 3 0, Q 4 (.call 248 [.k (.int .u32 4294967295), .t 3] [] []), Qm 2 4] [2] [])
  (.ret))
def spec_SumOf.m : Fn := { np := 1, body := spec_SumOf.b, res := [.tmp 2] }
def spec_SumOf.k (M : Nat → Option Body) : Prop := M 201 = some (.code spec_SumOf.m) ∧ spec_SumMore.k M
def impl_SumMore.l1 : C := .seq (.reg [Q 20 (.bin .lss (.t 19) (kI 8))] [0,1,5,19,20] [])
  (.seq (.cond (.t 20) (.skip) (.exit 2))
  (.seq (.block 3 (.seq (.reg [Qm 21 0, Q 22 (.bin .and (.t 21) (.k (.int .u32 1))), Qm 6 22] [0,1,5,6,19] [])
  (.seq (.reg [Qm 23 0, Q 24 (.bin .shr (.t 23) (.k (.int .u64 1))), Qm 0 24] [0,1,5,6,19] [])
  (.seq (.reg [Qm 25 6, Q 26 (.bin .eql (.t 25) (.k (.int .u32 1)))] [0,1,5,19,26] [])
  (.cond (.t 26) (.reg [Qm 27 0, Q 28 (.bin .xor (.t 27) (.k (.int .u32 3558460437))), Qm 0 28] [0,1,5,19] []) (.skip))))))
  (.reg [Q 29 (.bin .add (.t 19) (kI 1)), Qm 19 29] [0,1,5,19] [])))
def impl_SumMore.l0 : C := .seq (.seq (.reg [Qm 7 5, Qm 8 1, Q 9 (.slen (.t 8)), Q 10 (.bin .lss (.t 7) (.t 9))] [0,1,5,10] [])
  (.cond (.t 10) (.skip) (.exit 0)))
  (.seq (.block 1 (.seq (.reg [Qm 13 0, Qm 14 1, Qm 15 5, Q 16 (.idx (.t 14) (.t 15)), Q 17 (.i2i .u32 (.t 16)), Q 18 (.bin .xor (.t 13) (.t 17)), Qm 0 18] [0,1,5] [])
  (.seq (.reg [Qi 19 0] [0,1,5,19] [])
  (.block 2 (.loop impl_SumMore.l1)))))
  (.reg [Qm 11 5, Q 12 (.bin .add (.t 11) (kI 1)), Qm 5 12] [0,1,5] []))
def impl_SumMore.b : C := .seq (.reg [Q 4 (.mv (.k (.int .u32 0)))] [0,1] [])
  (.seq (.seq (.reg [Qi 5 0] [0,1,5] [])
  (.block 0 (.loop impl_SumMore.l0)))
  (.seq (.reg [Qm 30 0, Qm 4 30] [4] [])
  (.ret)))
def impl_SumMore.m : Fn := { np := 2, body := impl_SumMore.b, res := [.tmp 4] }
def impl_SumMore.k (M : Nat → Option Body) : Prop := M 249 = some (.code impl_SumMore.m)
def impl_SumOf.b : C := .seq (.reg [Q 2 (.mv (.k (.int .u32 0)))] [0] [])
  (.seq (.reg [Qm 3 0, Q 4 (.call 249 [.k (.int .u32 4294967295), .t 3] [] []), Qm 2 4] [2] [])
  (.ret))
def impl_SumOf.m : Fn := { np := 1, body := impl_SumOf.b, res := [.tmp 2] }
def impl_SumOf.k (M : Nat → Option Body) : Prop := M 203 = some (.code impl_SumOf.m) ∧ impl_SumMore.k M
def spec_Sealed.b : C := .seq (.reg [Q 2 (.mv (.k (.str ⟨#[]⟩))), Qb 3 false] [0] [])
  (.seq (.seq (.reg [Qm 4 0, Q 5 (.slen (.t 4)), Q 6 (.bin .gtr (.t 5) (kI 20000))] [0,6] [])
  (.cond (.t 6) (.seq (.reg [Q 2 (.mv (.k (.str ⟨#[]⟩))), Qb 3 false] [2,3] [])
  (.ret)) (.skip)))
  (.seq (.reg [Qm 7 0, Qm 8 0, Q 9 (.call 201 [.t 8] [] []), Q 10 (.call 202 [.t 9] [] []), Q 11 (.bin .add (.t 7) (.t 10)), Qm 2 11, Qb 3 true] [2,3] [])
  (.ret)))
def spec_Sealed.m : Fn := { np := 1, body := spec_Sealed.b, res := [.tmp 2, .tmp 3] }
def spec_Sealed.k (M : Nat → Option Body) : Prop := M 100 = some (.code spec_Sealed.m) ∧ spec_SumOf.k M ∧ spec_l02Four.k M
def impl_Sealed.b : C := .seq (.reg [Q 2 (.mv (.k (.str ⟨#[]⟩))), Qb 3 false] [0] [])
  (.seq (.seq (.reg [Qm 4 0, Q 5 (.slen (.t 4)), Q 6 (.bin .gtr (.t 5) (kI 20000))] [0,6] [])
  (.cond (.t 6) (.seq (.reg [Q 2 (.mv (.k (.str ⟨#[]⟩))), Qb 3 false] [2,3] [])
  (.ret)) (.skip)))
  (.seq (.reg [Qm 7 0, Qm 8 0, Q 9 (.call 203 [.t 8] [] []), Q 10 (.i2i .i64 (.t 9)), Q 11 (.call 204 [.t 10] [] []), Q 12 (.bin .add (.t 7) (.t 11)), Qm 2 12, Qb 3 true] [2,3] [])
  (.ret)))
def impl_Sealed.m : Fn := { np := 1, body := impl_Sealed.b, res := [.tmp 2, .tmp 3] }
def impl_Sealed.k (M : Nat → Option Body) : Prop := M 103 = some (.code impl_Sealed.m) ∧ impl_SumOf.k M ∧ impl_four.k M
def spec_Unsealed.b : C := .seq (.reg [Q 2 (.mv (.k (.str ⟨#[]⟩))), Qb 3 false] [0] [])
  (.seq (.reg [Qm 5 0, Q 6 (.slen (.t 5)), Q 7 (.bin .sub (.t 6) (kI 4)), Qm 4 7] [0,4] [])
  (.seq (.seq (.regd [Qm 8 4, Q 9 (.bin .lss (.t 8) (kI 0)), Qm 10 9, Qg 11 (.mv (.t 4)) 10 false, Qg 12 (.bin .gtr (.t 11) (kI 20000)) 10 false, Q 13 (.pick (.t 10) (kB true) (.t 12)), Qm 14 13,
    Qg 15 (.mv (.t 0)) 14 false, Qg 16 (.mv (.t 4)) 14 false, Qg 17 (.sstr (.t 15) (some (.t 16)) none) 14 false, Qg 18 (.mv (.t 0)) 14 false, Qg 19 (.mv (.t 4)) 14 false,
    Qg 20 (.sstr (.t 18) none (some (.t 19))) 14 false, Qg 21 (.call 201 [.t 20] [] []) 14 false, Qg 22 (.call 202 [.t 21] [] []) 14 false, Qg 23 (.bin .neq (.t 17) (.t 22)) 14 false,
    Q 24 (.pick (.t 14) (kB true) (.t 23))] [[], [0], [0,1], [0,1,2], [0,1,2,3], [0,1,2,3,4], [0,1,2,3,4,5], [0,1,2,3,4,5,6], [0,1,2,3,4,5,6], [0,1,2,3,4,5,6,7,8], [0,1,2,3,4,5,6], [0,1,2,3,4,5,6], [0,1,2,3,4,5,6,10,11], [0,1,2,3,4,5,6,10,11,12], [0,1,2,3,4,5,6,10,11,12,13], [0,1,2,3,4,5,6,7,8,9,10,11,12,13,14], [0,1,2,3,4,5,6,7,8,9,10,11,12,13,14,15]] [0,4,24] [])
  (.cond (.t 24) (.seq (.reg [Q 2 (.mv (.k (.str ⟨#[]⟩))), Qb 3 false] [2,3] [])
  (.ret)) (.skip)))
  (.seq (.reg [Qm 25 0, Qm 26 4, Q 27 (.sstr (.t 25) none (some (.t 26))), Qm 2 27, Qb 3 true] [2,3] [])
  (.ret))))
def spec_Unsealed.m : Fn := { np := 1, body := spec_Unsealed.b, res := [.tmp 2, .tmp 3] }
def spec_Unsealed.k (M : Nat → Option Body) : Prop := M 167 = some (.code spec_Unsealed.m) ∧ spec_SumOf.k M ∧ spec_l02Four.k M
def impl_fourAt.b : C := .seq (.reg [Qi 4 0] [0,1] [])
  (.seq (.regd [Qm 5 0, Qm 6 1, Q 7 (.idx (.t 5) (.t 6)), Q 8 (.i2i .i64 (.t 7)), Q 9 (.bin .shl (.t 8) (.k (.int .u64 24))), Qm 10 0, Qm 11 1, Q 12 (.bin .add (.t 11) (kI 1)),
    Q 13 (.idx (.t 10) (.t 12)), Q 14 (.i2i .i64 (.t 13)), Q 15 (.bin .shl (.t 14) (.k (.int .u64 16))), Q 16 (.bin .or (.t 9) (.t 15)), Qm 17 0, Qm 18 1,
    Q 19 (.bin .add (.t 18) (kI 2)), Q 20 (.idx (.t 17) (.t 19)), Q 21 (.i2i .i64 (.t 20)), Q 22 (.bin .shl (.t 21) (.k (.int .u64 8))), Q 23 (.bin .or (.t 16) (.t 22)), Qm 24 0,
    Qm 25 1, Q 26 (.bin .add (.t 25) (kI 3)), Q 27 (.idx (.t 24) (.t 26)), Q 28 (.i2i .i64 (.t 27)), Q 29 (.bin .or (.t 23) (.t 28)), Qm 4 29] [[], [], [0,1], [0,1,2], [0,1,2,3], [], [], [6], [5,6,7], [5,6,7,8], [5,6,7,8,9], [0,1,2,3,4,5,6,7,8,9,10], [], [], [13], [12,13,14], [12,13,14,15], [12,13,14,15,16], [0,1,2,3,4,5,6,7,8,9,10,11,12,13,14,15,16,17], [], [], [20], [19,20,21], [19,20,21,22], [0,1,2,3,4,5,6,7,8,9,10,11,12,13,14,15,16,17,18,19,20,21,22,23], [0,1,2,3,4,5,6,7,8,9,10,11,12,13,14,15,16,17,18,19,20,21,22,23,24]] [4] [])
  (.ret))
def impl_fourAt.m : Fn := { np := 2, body := impl_fourAt.b, res := [.tmp 4] }
def impl_fourAt.k (M : Nat → Option Body) : Prop := M 236 = some (.code impl_fourAt.m)
def impl_Unsealed.b : C := .seq (.reg [Q 2 (.mv (.k (.str ⟨#[]⟩))), Qb 3 false] [0] [])
  (.seq (.reg [Qm 5 0, Q 6 (.slen (.t 5)), Q 7 (.bin .sub (.t 6) (kI 4)), Qm 4 7] [0,4] [])
  (.seq (.seq (.reg [Qm 8 4, Q 9 (.call 101 [.t 8, kI 0, kI 20000] [] []), Q 10 (.not (.t 9)), Qm 11 10, Qg 12 (.mv (.t 0)) 11 false, Qg 13 (.mv (.t 4)) 11 false,
    Qg 14 (.sstr (.t 12) none (some (.t 13))) 11 false, Qg 15 (.call 203 [.t 14] [] []) 11 false, Qg 16 (.i2i .i64 (.t 15)) 11 false, Qg 17 (.mv (.t 0)) 11 false,
    Qg 18 (.mv (.t 4)) 11 false, Qg 19 (.call 236 [.t 17, .t 18] [] []) 11 false, Qg 20 (.bin .neq (.t 16) (.t 19)) 11 false, Q 21 (.pick (.t 11) (kB true) (.t 20))] [0,4,21] [])
  (.cond (.t 21) (.seq (.reg [Q 2 (.mv (.k (.str ⟨#[]⟩))), Qb 3 false] [2,3] [])
  (.ret)) (.skip)))
  (.seq (.reg [Qm 22 0, Qm 23 4, Q 24 (.sstr (.t 22) none (some (.t 23))), Qm 2 24, Qb 3 true] [2,3] [])
  (.ret))))
def impl_Unsealed.m : Fn := { np := 1, body := impl_Unsealed.b, res := [.tmp 2, .tmp 3] }
def impl_Unsealed.k (M : Nat → Option Body) : Prop := M 168 = some (.code impl_Unsealed.m) ∧ impl_within.k M ∧ impl_SumOf.k M ∧ impl_fourAt.k M
end Mx

namespace Mx
open Go
def impl_scan_num.b : C := .seq (.reg [Qi 2 0] [0] [0])
  (.seq (.regd [Qm 7 0, Q 8 (.nilc (.t 7)), Qf 9 0 8, Ql 10 9, Qm 11 0, Q 12 (.nilc (.t 11)), Qf 13 1 12, Ql 14 13, Q 15 (.call 231 [.t 10, .t 14] [] []), Qm 6 15, Qx 16 0 6, Qx 17 1 6, Qx 18 2 6,
    Qm 3 16, Qm 4 17, Qm 5 18] [[], [0], [0,1], [0,1,2], [], [4], [4,5], [4,5,6], lr 8, lr 9, lr 10, lr 10, lr 10, lr 11, lr 12 ++ [13], lr 15] [0,3,4,5] [0])
  (.seq (.seq (.reg [Qm 19 0, Q 20 (.nilc (.t 19)), Qf 21 2 20, Ql 22 21, Qm 23 22, Qg 24 (.mv (.t 5)) 23 false, Qg 25 (.not (.t 24)) 23 false, Q 26 (.pick (.t 23) (kB true) (.t 25))] [0,3,4,26] [0])
  (.cond (.t 26) (.seq (.reg [Qm 27 0, Q 28 (.nilc (.t 27)), Qf 29 2 28, Qn (.store 1 (.t 29) (kB true))] [] [0])
  (.seq (.reg [Qi 2 0] [2] [0])
  (.ret))) (.skip)))
  (.seq (.reg [Qm 30 0, Qm 31 4, Q 32 (.nilc (.t 30)), Qf 33 1 32, Qs 1 33 31] [3] [0])
  (.seq (.reg [Qm 34 3, Qm 2 34] [2] [0])
  (.ret)))))
def impl_scan_num.m : Fn := { np := 1, body := impl_scan_num.b, res := [.tmp 2] }
def impl_scan_num.k (M : Nat → Option Body) : Prop := M 152 = some (.code impl_scan_num.m) ∧ impl_ReadVar.k M
def impl_scan_many.b : C := .seq (.reg [Qi 4 0] [0,1] [0])
  (.seq (.reg [Qm 6 0, Q 7 (.call 152 [.t 6] [0] []), Qm 5 7] [0,1,5] [0])
  (.seq (.seq (.reg [Qm 8 5, Qm 9 1, Q 10 (.bin .gtr (.t 8) (.t 9))] [0,5,10] [0])
  (.cond (.t 10) (.reg [Qm 11 0, Q 12 (.nilc (.t 11)), Qf 13 2 12, Qn (.store 1 (.t 13) (kB true))] [0,5] [0]) (.skip)))
  (.seq (.seq (.reg [Qm 14 0, Q 15 (.nilc (.t 14)), Qf 16 2 15, Ql 17 16] [5,17] [0])
  (.cond (.t 17) (.seq (.reg [Qi 4 0] [4] [0])
  (.ret)) (.skip)))
  (.seq (.reg [Qm 18 5, Qm 4 18] [4] [0])
  (.ret)))))
def impl_scan_many.m : Fn := { np := 2, body := impl_scan_many.b, res := [.tmp 4] }
def impl_scan_many.k (M : Nat → Option Body) : Prop := M 169 = some (.code impl_scan_many.m) ∧ impl_scan_num.k M
def impl_scan_short.b : C := .seq (.reg [Q 2 (.mv (.k (.str ⟨#[]⟩)))] [0] [0])
  (.seq (.regd [Qm 7 0, Q 8 (.nilc (.t 7)), Qf 9 0 8, Ql 10 9, Qm 11 0, Q 12 (.nilc (.t 11)), Qf 13 1 12, Ql 14 13, Q 15 (.call 207 [.t 10, .t 14] [] []), Qm 6 15, Qx 16 0 6, Qx 17 1 6, Qx 18 2 6,
    Qm 3 16, Qm 4 17, Qm 5 18] [[], [0], [0,1], [0,1,2], [], [4], [4,5], [4,5,6], lr 8, lr 9, lr 10, lr 10, lr 10, lr 11, lr 12 ++ [13], lr 15] [0,3,4,5] [0])
  (.seq (.seq (.reg [Qm 19 0, Q 20 (.nilc (.t 19)), Qf 21 2 20, Ql 22 21, Qm 23 22, Qg 24 (.mv (.t 5)) 23 false, Qg 25 (.not (.t 24)) 23 false, Q 26 (.pick (.t 23) (kB true) (.t 25))] [0,3,4,26] [0])
  (.cond (.t 26) (.seq (.reg [Qm 27 0, Q 28 (.nilc (.t 27)), Qf 29 2 28, Qn (.store 1 (.t 29) (kB true))] [] [0])
  (.seq (.reg [Q 2 (.mv (.k (.str ⟨#[]⟩)))] [2] [0])
  (.ret))) (.skip)))
  (.seq (.reg [Qm 30 0, Qm 31 4, Q 32 (.nilc (.t 30)), Qf 33 1 32, Qs 1 33 31] [3] [0])
  (.seq (.reg [Qm 34 3, Qm 2 34] [2] [0])
  (.ret)))))
def impl_scan_short.m : Fn := { np := 1, body := impl_scan_short.b, res := [.tmp 2] }
def impl_scan_short.k (M : Nat → Option Body) : Prop := M 153 = some (.code impl_scan_short.m) ∧ impl_ReadShort.k M
def impl_scan_stamp.b : C := .seq (.reg [Q 2 (.alloc [.int .i64 0, .int .i64 0])] [0,2] [0,2])
  (.seq (.reg [Qm 4 0, Q 5 (.call 152 [.t 4] [0] []), Q 6 (.build [.int .i64 0, .int .i64 0] [(0, 1, .t 5)]), Q 3 (.alloc [.int .i64 0, .int .i64 0]), Qs 2 3 6] [0,2,3] [0,2,3])
  (.seq (.reg [Qm 7 0, Q 8 (.call 152 [.t 7] [0] []), Qf 9 1 3, Qs 1 9 8] [2,3] [0,2,3])
  (.seq (.reg [QL 10 2 3, Qs 2 2 10] [2] [0,2])
  (.ret))))
def impl_scan_stamp.m : Fn := { np := 1, body := impl_scan_stamp.b, res := [.cell 2 true 2] }
def impl_scan_stamp.k (M : Nat → Option Body) : Prop := M 222 = some (.code impl_scan_stamp.m) ∧ impl_scan_num.k M
def impl_scan_nums.l0 : C := .seq (.reg [Q 14 (.bin .lss (.t 13) (.t 12))] [0,5,12,13,14] [0,8,20])
  (.seq (.cond (.t 14) (.skip) (.exit 0))
  (.seq (.block 1 (.seq (.reg [Qm 15 0, Q 16 (.call 152 [.t 15] [0] []), Qm 7 16] [0,5,7,12,13] [0,8,20])
  (.reg [Qm 17 5, Qm 18 7, Q 19 (.bslice 1 1 [.int .i64 0] [(0, .t 18)]), Q 20 (.app 1 8 (.t 17) (.t 19)), Qm 5 20] [0,5,12,13] [0,8,20])))
  (.reg [Q 21 (.bin .add (.t 13) (kI 1)), Qm 13 21] [0,5,12,13] [0,8,20])))
def impl_scan_nums.b : C := .seq (.reg [Q 4 (.nil 1)] [0,1] [0])
  (.seq (.reg [Q 8 (.bslice 1 0 [.int .i64 0] []), Qm 5 8] [0,1,5] [0,8,20])
  (.seq (.reg [Qm 9 0, Qm 10 1, Q 11 (.call 169 [.t 9, .t 10] [0] []), Qm 6 11] [0,5,6] [0,8,20])
  (.seq (.seq (.reg [Qm 12 6, Qi 13 0] [0,5,12,13] [0,8,20])
  (.block 0 (.loop impl_scan_nums.l0)))
  (.seq (.reg [Qm 22 5, Qm 4 22] [4] [0,4,8,20])
  (.ret)))))
def impl_scan_nums.m : Fn := { np := 2, body := impl_scan_nums.b, res := [.tmp 4] }
def impl_scan_nums.k (M : Nat → Option Body) : Prop := M 170 = some (.code impl_scan_nums.m) ∧ impl_scan_num.k M ∧ impl_scan_many.k M
def impl_scan_mail.l0 : C := .seq (.reg [Q 12 (.bin .lss (.t 11) (kI 3))] [0,2,3,11,12] [0,2,3,23])
  (.seq (.cond (.t 12) (.skip) (.exit 0))
  (.seq (.block 1 (.seq (.reg [Qm 13 0, Q 14 (.call 152 [.t 13] [0] []), Q 15 (.build [.int .i64 0, .int .i64 0, .int .i64 0] [(0, 1, .t 14)]), Q 4 (.alloc [.int .i64 0, .int .i64 0, .int .i64 0]), Qs 3 4 15] [0,2,3,4,11] [0,2,3,4,23])
  (.seq (.reg [Qm 16 0, Q 17 (.call 222 [.t 16] [0] []), Qf 18 1 4, Qs 2 18 17] [0,2,3,4,11] [0,2,3,4,23])
  (.reg [Qf 19 2 3, Ql 20 19, QL 21 3 4, Q 22 (.bslice 3 1 [.int .i64 0, .int .i64 0, .int .i64 0] [(0, .t 21)]), Q 23 (.app 3 24 (.t 20) (.t 22)), Qf 24 2 3, Qs 1 24 23] [0,2,3,11] [0,2,3,23]))))
  (.reg [Q 25 (.bin .add (.t 11) (kI 1)), Qm 11 25] [0,2,3,11] [0,2,3,23])))
def impl_scan_mail.b : C := .seq (.reg [Q 2 (.alloc [.int .i64 0, .int .i64 0, .nils 3, .str ⟨#[]⟩])] [0,2] [0,2,23])
  (.seq (.reg [Qm 5 0, Q 6 (.call 152 [.t 5] [0] []), Q 7 (.build [.int .i64 0, .int .i64 0, .nils 3, .str ⟨#[]⟩] [(0, 1, .t 6)]), Q 3 (.alloc [.int .i64 0, .int .i64 0, .nils 3, .str ⟨#[]⟩]),
    Qs 4 3 7] [0,2,3] [0,2,3,23])
  (.seq (.reg [Qm 8 0, Q 9 (.call 152 [.t 8] [0] []), Qf 10 1 3, Qs 1 10 9] [0,2,3] [0,2,3,23])
  (.seq (.seq (.reg [Qi 11 0] [0,2,3,11] [0,2,3,23])
  (.block 0 (.loop impl_scan_mail.l0)))
  (.seq (.reg [Qm 26 0, Q 27 (.call 153 [.t 26] [0] []), Qf 28 3 3, Qs 1 28 27] [2,3] [0,2,3,23])
  (.seq (.reg [QL 29 4 3, Qs 4 2 29] [2] [0,2,23])
  (.ret))))))
def impl_scan_mail.m : Fn := { np := 1, body := impl_scan_mail.b, res := [.cell 2 true 4] }
def impl_scan_mail.k (M : Nat → Option Body) : Prop := M 223 = some (.code impl_scan_mail.m) ∧ impl_scan_num.k M ∧ impl_scan_short.k M ∧ impl_scan_stamp.k M
def impl_scan_box.l0 : C := .seq (.reg [Q 22 (.bin .lss (.t 21) (.t 20))] [0,2,3,20,21,22] [0,2,3,29,13300])
  (.seq (.cond (.t 22) (.skip) (.exit 0))
  (.seq (.block 1 (.seq (.reg [Qm 23 0, Q 24 (.call 223 [.t 23] [0] []), Q 5 (.alloc [.int .i64 0, .int .i64 0, .nils 3, .str ⟨#[]⟩]), Qs 4 5 24] [0,2,3,5,20,21] [0,2,3,5,29,13300])
  (.reg [Qf 25 5 3, Ql 26 25, QL 27 4 5, Q 28 (.bslice 4 1 [.int .i64 0, .int .i64 0, .nils 3, .str ⟨#[]⟩] [(0, .t 27)]), Q 29 (.app 4 56 (.t 26) (.t 28)), Qf 30 5 3, Qs 1 30 29] [0,2,3,20,21] [0,2,3,29,13300])))
  (.reg [Q 31 (.bin .add (.t 21) (kI 1)), Qm 21 31] [0,2,3,20,21] [0,2,3,29,13300])))
def impl_scan_box.b : C := .seq (.reg [Q 2 (.alloc [.int .i64 0, .str ⟨#[]⟩, .int .i64 0, .int .i64 0, .int .i64 0, .nils 4, .nils 1])] [0,2] [0,2,29,13300])
  (.seq (.reg [Qm 6 0, Q 7 (.call 152 [.t 6] [0] []), Q 8 (.build [.int .i64 0, .str ⟨#[]⟩, .int .i64 0, .int .i64 0, .int .i64 0, .nils 4, .nils 1] [(0, 1, .t 7)]),
    Q 3 (.alloc [.int .i64 0, .str ⟨#[]⟩, .int .i64 0, .int .i64 0, .int .i64 0, .nils 4, .nils 1]), Qs 7 3 8] [0,2,3] [0,2,3,29,13300])
  (.seq (.reg [Qm 9 0, Q 10 (.call 153 [.t 9] [0] []), Qf 11 1 3, Qs 1 11 10] [0,2,3] [0,2,3,29,13300])
  (.seq (.reg [Qm 12 0, Q 13 (.call 222 [.t 12] [0] []), Qf 14 2 3, Qs 2 14 13] [0,2,3] [0,2,3,29,13300])
  (.seq (.reg [Qm 15 0, Q 16 (.call 152 [.t 15] [0] []), Qf 17 4 3, Qs 1 17 16] [0,2,3] [0,2,3,29,13300])
  (.seq (.reg [Qm 18 0, Q 19 (.call 169 [.t 18, kI 10] [0] []), Qm 4 19] [0,2,3,4] [0,2,3,29,13300])
  (.seq (.seq (.reg [Qm 20 4, Qi 21 0] [0,2,3,20,21] [0,2,3,29,13300])
  (.block 0 (.loop impl_scan_box.l0)))
  (.seq (.reg [Qm 32 0, Q 33 (.call 170 [.t 32, kI 40] [0] [(0, 13300)]), Qf 34 6 3, Qs 1 34 33] [2,3] [0,2,3,29,13300])
  (.seq (.reg [QL 35 7 3, Qs 7 2 35] [2] [0,2,29,13300])
  (.ret)))))))))
def impl_scan_box.m : Fn := { np := 1, body := impl_scan_box.b, res := [.cell 2 true 7] }
def impl_scan_box.k (M : Nat → Option Body) : Prop := M 143 = some (.code impl_scan_box.m) ∧ impl_scan_num.k M ∧ impl_scan_short.k M ∧ impl_scan_many.k M ∧ impl_scan_nums.k M ∧ impl_scan_stamp.k M ∧ impl_scan_mail.k M
def spec_l05Var.b : C := .seq (.reg [Qi 2 0] [0] [0])
  (.seq (.regd [Qm 7 0, Q 8 (.nilc (.t 7)), Qf 9 0 8, Ql 10 9, Qm 11 0, Q 12 (.nilc (.t 11)), Qf 13 1 12, Ql 14 13, Q 15 (.call 221 [.t 10, .t 14] [] []), Qm 6 15, Qx 16 0 6, Qx 17 1 6, Qx 18 2 6,
    Qm 3 16, Qm 4 17, Qm 5 18] [[], [0], [0,1], [0,1,2], [], [4], [4,5], [4,5,6], lr 8, lr 9, lr 10, lr 10, lr 10, lr 11, lr 12 ++ [13], lr 15] [0,3,4,5] [0])
  (.seq (.seq (.reg [Qm 19 0, Q 20 (.nilc (.t 19)), Qf 21 2 20, Ql 22 21, Qm 23 22, Qg 24 (.mv (.t 5)) 23 false, Qg 25 (.not (.t 24)) 23 false, Q 26 (.pick (.t 23) (kB true) (.t 25))] [0,3,4,26] [0])
  (.cond (.t 26) (.seq (.reg [Qm 27 0, Q 28 (.nilc (.t 27)), Qf 29 2 28, Qn (.store 1 (.t 29) (kB true))] [] [0])
  (.seq (.reg [Qi 2 0] [2] [0])
  (.ret))) (.skip)))
  (.seq (.reg [Qm 30 0, Qm 31 4, Q 32 (.nilc (.t 30)), Qf 33 1 32, Qs 1 33 31] [3] [0])
  (.seq (.reg [Qm 34 3, Qm 2 34] [2] [0])
  (.ret)))))
def spec_l05Var.m : Fn := { np := 1, body := spec_l05Var.b, res := [.tmp 2] }
def spec_l05Var.k (M : Nat → Option Body) : Prop := M 139 = some (.code spec_l05Var.m) ∧ spec_ReadVar.k M
def spec_l05Short.b : C := .seq (.reg [Q 2 (.mv (.k (.str ⟨#[]⟩)))] [0] [0])
  (.seq (.regd [Qm 7 0, Q 8 (.nilc (.t 7)), Qf 9 0 8, Ql 10 9, Qm 11 0, Q 12 (.nilc (.t 11)), Qf 13 1 12, Ql 14 13, Q 15 (.call 206 [.t 10, .t 14] [] []), Qm 6 15, Qx 16 0 6, Qx 17 1 6, Qx 18 2 6,
    Qm 3 16, Qm 4 17, Qm 5 18] [[], [0], [0,1], [0,1,2], [], [4], [4,5], [4,5,6], lr 8, lr 9, lr 10, lr 10, lr 10, lr 11, lr 12 ++ [13], lr 15] [0,3,4,5] [0])
  (.seq (.seq (.reg [Qm 19 0, Q 20 (.nilc (.t 19)), Qf 21 2 20, Ql 22 21, Qm 23 22, Qg 24 (.mv (.t 5)) 23 false, Qg 25 (.not (.t 24)) 23 false, Q 26 (.pick (.t 23) (kB true) (.t 25))] [0,3,4,26] [0])
  (.cond (.t 26) (.seq (.reg [Qm 27 0, Q 28 (.nilc (.t 27)), Qf 29 2 28, Qn (.store 1 (.t 29) (kB true))] [] [0])
  (.seq (.reg [Q 2 (.mv (.k (.str ⟨#[]⟩)))] [2] [0])
  (.ret))) (.skip)))
  (.seq (.reg [Qm 30 0, Qm 31 4, Q 32 (.nilc (.t 30)), Qf 33 1 32, Qs 1 33 31] [3] [0])
  (.seq (.reg [Qm 34 3, Qm 2 34] [2] [0])
  (.ret)))))
def spec_l05Short.m : Fn := { np := 1, body := spec_l05Short.b, res := [.tmp 2] }
def spec_l05Short.k (M : Nat → Option Body) : Prop := M 140 = some (.code spec_l05Short.m) ∧ spec_ReadShort.k M
def spec_l10Ints.l0 : C := .seq (.seq (.reg [Qm 11 7, Qm 12 5, Q 13 (.bin .lss (.t 11) (.t 12)), Qm 14 13, Qg 15 (.mv (.t 7)) 14 true, Qg 16 (.mv (.t 1)) 14 true, Qg 17 (.bin .leq (.t 15) (.t 16)) 14 true,
    Q 18 (.pick (.t 14) (.t 17) (kB false)), Qm 19 18, Qg 20 (.mv (.t 0)) 19 true, Qg 21 (.nilc (.t 20)) 19 true, Qg 22 (.faddr 2 (.t 21)) 19 true,
    Qg 23 (.load false 1 (.t 22)) 19 true, Qg 24 (.not (.t 23)) 19 true, Q 25 (.pick (.t 19) (.t 24) (kB false))] [0,1,5,6,7,25] [0,10,32])
  (.cond (.t 25) (.skip) (.exit 0)))
  (.seq (.block 1 (.reg [Qm 28 6, Qm 29 0, Q 30 (.call 139 [.t 29] [0] []), Q 31 (.bslice 1 1 [.int .i64 0] [(0, .t 30)]), Q 32 (.app 1 8 (.t 28) (.t 31)), Qm 6 32] [0,1,5,6,7] [0,10,32]))
  (.reg [Qm 26 7, Q 27 (.bin .add (.t 26) (kI 1)), Qm 7 27] [0,1,5,6,7] [0,10,32]))
def spec_l10Ints.b : C := .seq (.reg [Q 4 (.nil 1)] [0,1] [0])
  (.seq (.reg [Qm 8 0, Q 9 (.call 139 [.t 8] [0] []), Qm 5 9] [0,1,5] [0])
  (.seq (.reg [Q 10 (.bslice 1 0 [.int .i64 0] []), Qm 6 10] [0,1,5,6] [0,10,32])
  (.seq (.seq (.reg [Qi 7 0] [0,1,5,6,7] [0,10,32])
  (.block 0 (.loop spec_l10Ints.l0)))
  (.seq (.reg [Qm 33 6, Qm 4 33] [4] [0,4,10,32])
  (.ret)))))
def spec_l10Ints.m : Fn := { np := 2, body := spec_l10Ints.b, res := [.tmp 4] }
def spec_l10Ints.k (M : Nat → Option Body) : Prop := M 142 = some (.code spec_l10Ints.m) ∧ spec_l05Var.k M
def spec_ReadMail.l0 : C := .seq (.seq (.reg [Qm 21 9, Q 22 (.bin .lss (.t 21) (kI 3))] [4,7,8,9,22] [4,8,14,40])
  (.cond (.t 22) (.skip) (.exit 0)))
  (.seq (.block 1 (.seq (.reg [Qm 25 7, Q 26 (.call 139 [.t 25] [0] []), Q 27 (.build [.int .i64 0, .int .i64 0, .int .i64 0] [(0, 1, .t 26)]), Q 10 (.alloc [.int .i64 0, .int .i64 0, .int .i64 0]), Qs 3 10 27] [4,7,8,9,10] [4,8,10,14,40])
  (.seq (.reg [Qm 28 7, Q 29 (.call 139 [.t 28] [0] []), Qf 30 1 10, Qf 31 0 30, Qs 1 31 29] [4,7,8,9,10] [4,8,10,14,40])
  (.seq (.reg [Qm 32 7, Q 33 (.call 139 [.t 32] [0] []), Qf 34 1 10, Qf 35 1 34, Qs 1 35 33] [4,7,8,9,10] [4,8,10,14,40])
  (.reg [Qf 36 2 8, Ql 37 36, QL 38 3 10, Q 39 (.bslice 3 1 [.int .i64 0, .int .i64 0, .int .i64 0] [(0, .t 38)]), Q 40 (.app 3 24 (.t 37) (.t 39)), Qf 41 2 8, Qs 1 41 40] [4,7,8,9] [4,8,14,40])))))
  (.reg [Qm 23 9, Q 24 (.bin .add (.t 23) (kI 1)), Qm 9 24] [4,7,8,9] [4,8,14,40]))
def spec_ReadMail.b : C := .seq (.reg [Q 4 (.alloc [.int .i64 0, .int .i64 0, .nils 3, .str ⟨#[]⟩]), Qi 5 0, Qb 6 false] [0,1,4] [4,40])
  (.seq (.reg [Qm 11 0, Qm 12 1, Q 13 (.build [.str ⟨#[]⟩, .int .i64 0, .bool false] [(0, 1, .t 11), (1, 1, .t 12)]), Qv 14 13, Qm 7 14] [4,7] [4,14,40])
  (.seq (.reg [Qm 15 7, Q 16 (.call 139 [.t 15] [0] []), Q 17 (.build [.int .i64 0, .int .i64 0, .nils 3, .str ⟨#[]⟩] [(0, 1, .t 16)]),
    Q 8 (.alloc [.int .i64 0, .int .i64 0, .nils 3, .str ⟨#[]⟩]), Qs 4 8 17] [4,7,8] [4,8,14,40])
  (.seq (.reg [Qm 18 7, Q 19 (.call 139 [.t 18] [0] []), Qf 20 1 8, Qs 1 20 19] [4,7,8] [4,8,14,40])
  (.seq (.seq (.reg [Qi 9 0] [4,7,8,9] [4,8,14,40])
  (.block 0 (.loop spec_ReadMail.l0)))
  (.seq (.reg [Qm 42 7, Q 43 (.call 140 [.t 42] [0] []), Qf 44 3 8, Qs 1 44 43] [4,7,8] [4,8,14,40])
  (.seq (.seq (.reg [Qm 45 7, Q 46 (.nilc (.t 45)), Qf 47 2 46, Ql 48 47, Qm 49 48, Qg 50 (.load true 4 (.t 8)) 49 false, Qg 51 (.call 187 [.t 50] [] []) 49 false, Qg 52 (.not (.t 51)) 49 false,
    Q 53 (.pick (.t 49) (kB true) (.t 52))] [4,7,8,53] [4,8,14,40])
  (.cond (.t 53) (.seq (.reg [Q 54 (.build [.int .i64 0, .int .i64 0, .nils 3, .str ⟨#[]⟩] []), Qs 4 4 54, Qi 5 0, Qb 6 false] [4,5,6] [4,40])
  (.ret)) (.skip)))
  (.seq (.regd [QL 55 4 8, Qm 56 7, Q 57 (.nilc (.t 56)), Qf 58 1 57, Ql 59 58, Qs 4 4 55, Qm 5 59, Qb 6 true] [[], [], [1], [1,2], [1,2,3], [0], lr 6, lr 7] [4,5,6] [4,40])
  (.ret))))))))
def spec_ReadMail.m : Fn := { np := 2, body := spec_ReadMail.b, res := [.cell 4 true 4, .tmp 5, .tmp 6] }
def spec_ReadMail.k (M : Nat → Option Body) : Prop := M 141 = some (.code spec_ReadMail.m) ∧ spec_l05Var.k M ∧ spec_l05Short.k M ∧ spec_MailOk.k M
def spec_ReadBox.l0 : C := .seq (.seq (.reg [Qm 37 10, Qm 38 9, Q 39 (.bin .lss (.t 37) (.t 38)), Qm 40 39, Qg 41 (.mv (.t 10)) 40 true, Qg 42 (.bin .leq (.t 41) (kI 10)) 40 true, Q 43 (.pick (.t 40) (.t 42) (kB false)),
    Qm 44 43, Qg 45 (.mv (.t 7)) 44 true, Qg 46 (.nilc (.t 45)) 44 true, Qg 47 (.faddr 2 (.t 46)) 44 true, Qg 48 (.load false 1 (.t 47)) 44 true, Qg 49 (.not (.t 48)) 44 true,
    Q 50 (.pick (.t 44) (.t 49) (kB false))] [0,4,7,8,9,10,50] [4,8,17,70,17700])
  (.cond (.t 50) (.skip) (.exit 0)))
  (.seq (.block 1 (.seq (.reg [Qm 54 0, Qm 55 7, Q 56 (.nilc (.t 55)), Qf 57 1 56, Ql 58 57, Q 59 (.call 141 [.t 54, .t 58] [] []), Qm 53 59, Qx 60 0 53, Qx 61 1 53, Qx 62 2 53,
    Q 11 (.alloc [.int .i64 0, .int .i64 0, .nils 3, .str ⟨#[]⟩]), Qs 4 11 60, Qm 12 61, Qm 13 62] [0,4,7,8,9,10,11,12,13] [4,8,11,17,70,17700])
  (.seq (.seq (.reg [Qm 63 13, Q 64 (.not (.t 63))] [0,4,7,8,9,10,11,12,64] [4,8,11,17,70,17700])
  (.cond (.t 64) (.seq (.reg [Q 65 (.build [.int .i64 0, .str ⟨#[]⟩, .int .i64 0, .int .i64 0, .int .i64 0, .nils 4, .nils 1] []), Qs 7 4 65, Qi 5 0, Qb 6 false] [4,5,6] [4,70,17700])
  (.ret)) (.skip)))
  (.seq (.reg [Qf 66 5 8, Ql 67 66, QL 68 4 11, Q 69 (.bslice 4 1 [.int .i64 0, .int .i64 0, .nils 3, .str ⟨#[]⟩] [(0, .t 68)]), Q 70 (.app 4 56 (.t 67) (.t 69)), Qf 71 5 8, Qs 1 71 70] [0,4,7,8,9,10,12] [4,8,17,70,17700])
  (.reg [Qm 72 7, Qm 73 12, Q 74 (.nilc (.t 72)), Qf 75 1 74, Qs 1 75 73] [0,4,7,8,9,10] [4,8,17,70,17700])))))
  (.reg [Qm 51 10, Q 52 (.bin .add (.t 51) (kI 1)), Qm 10 52] [0,4,7,8,9,10] [4,8,17,70,17700]))
def spec_ReadBox.b : C := .seq (.reg [Q 4 (.alloc [.int .i64 0, .str ⟨#[]⟩, .int .i64 0, .int .i64 0, .int .i64 0, .nils 4, .nils 1]), Qi 5 0, Qb 6 false] [0,1,4] [4,70,17700])
  (.seq (.reg [Qm 14 0, Qm 15 1, Q 16 (.build [.str ⟨#[]⟩, .int .i64 0, .bool false] [(0, 1, .t 14), (1, 1, .t 15)]), Qv 17 16, Qm 7 17] [0,4,7] [4,17,70,17700])
  (.seq (.reg [Qm 18 7, Q 19 (.call 139 [.t 18] [0] []), Q 20 (.build [.int .i64 0, .str ⟨#[]⟩, .int .i64 0, .int .i64 0, .int .i64 0, .nils 4, .nils 1] [(0, 1, .t 19)]),
    Q 8 (.alloc [.int .i64 0, .str ⟨#[]⟩, .int .i64 0, .int .i64 0, .int .i64 0, .nils 4, .nils 1]), Qs 7 8 20] [0,4,7,8] [4,8,17,70,17700])
  (.seq (.reg [Qm 21 7, Q 22 (.call 140 [.t 21] [0] []), Qf 23 1 8, Qs 1 23 22] [0,4,7,8] [4,8,17,70,17700])
  (.seq (.reg [Qm 24 7, Q 25 (.call 139 [.t 24] [0] []), Qf 26 2 8, Qf 27 0 26, Qs 1 27 25] [0,4,7,8] [4,8,17,70,17700])
  (.seq (.reg [Qm 28 7, Q 29 (.call 139 [.t 28] [0] []), Qf 30 2 8, Qf 31 1 30, Qs 1 31 29] [0,4,7,8] [4,8,17,70,17700])
  (.seq (.reg [Qm 32 7, Q 33 (.call 139 [.t 32] [0] []), Qf 34 4 8, Qs 1 34 33] [0,4,7,8] [4,8,17,70,17700])
  (.seq (.reg [Qm 35 7, Q 36 (.call 139 [.t 35] [0] []), Qm 9 36] [0,4,7,8,9] [4,8,17,70,17700])
  (.seq (.seq (.reg [Qi 10 0] [0,4,7,8,9,10] [4,8,17,70,17700])
  (.block 0 (.loop spec_ReadBox.l0)))
  (.seq (.reg [Qm 76 7, Q 77 (.call 142 [.t 76, kI 40] [0] [(0, 17700)]), Qf 78 6 8, Qs 1 78 77] [4,7,8] [4,8,17,70,17700])
  (.seq (.seq (.reg [Qm 79 7, Q 80 (.nilc (.t 79)), Qf 81 2 80, Ql 82 81, Qm 83 82, Qg 84 (.load true 7 (.t 8)) 83 false, Qg 85 (.call 88 [.t 84] [] []) 83 false, Qg 86 (.not (.t 85)) 83 false,
    Q 87 (.pick (.t 83) (kB true) (.t 86))] [4,7,8,87] [4,8,17,70,17700])
  (.cond (.t 87) (.seq (.reg [Q 88 (.build [.int .i64 0, .str ⟨#[]⟩, .int .i64 0, .int .i64 0, .int .i64 0, .nils 4, .nils 1] []), Qs 7 4 88, Qi 5 0, Qb 6 false] [4,5,6] [4,70,17700])
  (.ret)) (.skip)))
  (.seq (.regd [QL 89 7 8, Qm 90 7, Q 91 (.nilc (.t 90)), Qf 92 1 91, Ql 93 92, Qs 7 4 89, Qm 5 93, Qb 6 true] [[], [], [1], [1,2], [1,2,3], [0], lr 6, lr 7] [4,5,6] [4,70,17700])
  (.ret))))))))))))
def spec_ReadBox.m : Fn := { np := 2, body := spec_ReadBox.b, res := [.cell 4 true 7, .tmp 5, .tmp 6] }
def spec_ReadBox.k (M : Nat → Option Body) : Prop := M 52 = some (.code spec_ReadBox.m) ∧ spec_BoxOk.k M ∧ spec_l05Var.k M ∧ spec_l05Short.k M ∧ spec_ReadMail.k M ∧ spec_l10Ints.k M
end Mx

namespace Mx
open Go
def spec_StoreText.l0 : C := .seq (.seq (.reg [Qm 24 5, Qf 25 2 1, Ql 26 25, Q 27 (.len (.t 26)), Q 28 (.bin .lss (.t 24) (.t 27))] [1,4,5,28] [1])
  (.cond (.t 28) (.skip) (.exit 0)))
  (.seq (.block 1 (.seq (.reg [Qf 32 2 1, Ql 33 32, Qm 34 5, Qa 35 7 33 34, QL 36 7 35, Q 37 (.call 34 [.t 36] [] []), Qm 31 37, Qx 38 0 31, Qx 39 1 31, Qm 6 38, Qm 7 39] [1,4,5,6] [1])
  (.reg [Qm 40 4, Qm 41 6, Q 42 (.bin .add (.t 40) (.t 41)), Qm 4 42] [1,4,5] [1])))
  (.reg [Qm 29 5, Q 30 (.bin .add (.t 29) (kI 1)), Qm 5 30] [1,4,5] [1]))
def spec_StoreText.l1 : C := .seq (.seq (.reg [Qm 49 8, Qf 50 3 1, Ql 51 50, Q 52 (.len (.t 51)), Q 53 (.bin .lss (.t 49) (.t 52))] [1,4,8,53] [1])
  (.cond (.t 53) (.skip) (.exit 2)))
  (.seq (.block 3 (.reg [Qm 56 4, Qf 57 3 1, Ql 58 57, Qm 59 8, Qa 60 1 58 59, Ql 61 60, Q 62 (.call 99 [.t 61] [] []), Q 63 (.bin .add (.t 56) (.t 62)), Qm 4 63] [1,4,8] [1]))
  (.reg [Qm 54 8, Q 55 (.bin .add (.t 54) (kI 1)), Qm 8 55] [1,4,8] [1]))
def spec_StoreText.b : C := .seq (.reg [Qv 1 0, Q 2 (.mv (.k (.str ⟨#[]⟩))), Qb 3 false] [1] [1])
  (.seq (.seq (.reg [QL 9 4 1, Q 10 (.call 149 [.t 9] [] []), Q 11 (.not (.t 10))] [1,11] [1])
  (.cond (.t 11) (.seq (.reg [Q 2 (.mv (.k (.str ⟨#[]⟩))), Qb 3 false] [2,3] [])
  (.ret)) (.skip)))
  (.seq (.regd [Qf 12 0 1, Ql 13 12, Q 14 (.call 99 [.t 13] [] []), Qf 15 1 1, Ql 16 15, Q 17 (.call 99 [.t 16] [] []), Q 18 (.bin .add (.t 14) (.t 17)), Qf 19 2 1, Ql 20 19, Q 21 (.len (.t 20)),
    Q 22 (.call 99 [.t 21] [] []), Q 23 (.bin .add (.t 18) (.t 22)), Qm 4 23] [[], [0], [0,1], [], [3], lr 5, lr 6, [], [7], [7,8], lr 6 ++ [7,8,9], lr 11, lr 12] [1,4] [1])
  (.seq (.seq (.reg [Qi 5 0] [1,4,5] [1])
  (.block 0 (.loop spec_StoreText.l0)))
  (.seq (.reg [Qm 43 4, Qf 44 3 1, Ql 45 44, Q 46 (.len (.t 45)), Q 47 (.call 99 [.t 46] [] []), Q 48 (.bin .add (.t 43) (.t 47)), Qm 4 48] [1,4] [1])
  (.seq (.seq (.reg [Qi 8 0] [1,4,8] [1])
  (.block 2 (.loop spec_StoreText.l1)))
  (.seq (.reg [Qm 64 4, Q 65 (.call 100 [.t 64] [] []), Qx 66 0 65, Qx 67 1 65, Qm 2 66, Qm 3 67] [2,3] [])
  (.ret)))))))
def spec_StoreText.m : Fn := { np := 1, body := spec_StoreText.b, res := [.tmp 2, .tmp 3] }
def spec_StoreText.k (M : Nat → Option Body) : Prop := M 60 = some (.code spec_StoreText.m) ∧ spec_BoxText.k M ∧ spec_l01Var.k M ∧ spec_Sealed.k M ∧ spec_StoreOk.k M
def spec_ReadStore.l0 : C := .seq (.seq (.reg [Qm 33 9, Qm 34 8, Q 35 (.bin .lss (.t 33) (.t 34)), Qm 36 35, Qg 37 (.mv (.t 9)) 36 true, Qg 38 (.bin .leq (.t 37) (kI 5)) 36 true, Q 39 (.pick (.t 36) (.t 38) (kB false)),
    Qm 40 39, Qg 41 (.mv (.t 6)) 40 true, Qg 42 (.nilc (.t 41)) 40 true, Qg 43 (.faddr 2 (.t 42)) 40 true, Qg 44 (.load false 1 (.t 43)) 40 true, Qg 45 (.not (.t 44)) 40 true,
    Q 46 (.pick (.t 40) (.t 45) (kB false))] [0,2,4,6,7,8,9,46] [2,7,24,66,17300])
  (.cond (.t 46) (.skip) (.exit 0)))
  (.seq (.block 1 (.seq (.reg [Qm 50 4, Qm 51 6, Q 52 (.nilc (.t 51)), Qf 53 1 52, Ql 54 53, Q 55 (.call 52 [.t 50, .t 54] [] []), Qm 49 55, Qx 56 0 49, Qx 57 1 49, Qx 58 2 49,
    Q 10 (.alloc [.int .i64 0, .str ⟨#[]⟩, .int .i64 0, .int .i64 0, .int .i64 0, .nils 4, .nils 1]), Qs 7 10 56, Qm 11 57, Qm 12 58] [0,2,4,6,7,8,9,10,11,12] [2,7,10,24,66,17300])
  (.seq (.seq (.reg [Qm 59 12, Q 60 (.not (.t 59))] [0,2,4,6,7,8,9,10,11,60] [2,7,10,24,66,17300])
  (.cond (.t 60) (.seq (.reg [Q 61 (.build [.int .i64 0, .int .i64 0, .nils 7, .nils 1] []), Qs 4 2 61, Qb 3 false] [2,3] [2,66,17300])
  (.ret)) (.skip)))
  (.seq (.reg [Qf 62 2 7, Ql 63 62, QL 64 7 10, Q 65 (.bslice 7 1 [.int .i64 0, .str ⟨#[]⟩, .int .i64 0, .int .i64 0, .int .i64 0, .nils 4, .nils 1] [(0, .t 64)]),
    Q 66 (.app 7 96 (.t 63) (.t 65)), Qf 67 2 7, Qs 1 67 66] [0,2,4,6,7,8,9,11] [2,7,24,66,17300])
  (.reg [Qm 68 6, Qm 69 11, Q 70 (.nilc (.t 68)), Qf 71 1 70, Qs 1 71 69] [0,2,4,6,7,8,9] [2,7,24,66,17300])))))
  (.reg [Qm 47 9, Q 48 (.bin .add (.t 47) (kI 1)), Qm 9 48] [0,2,4,6,7,8,9] [2,7,24,66,17300]))
def spec_ReadStore.b : C := .seq (.reg [Q 2 (.alloc [.int .i64 0, .int .i64 0, .nils 7, .nils 1]), Qb 3 false] [0,2] [2,66,17300])
  (.seq (.reg [Qm 16 0, Q 17 (.call 167 [.t 16] [] []), Qm 15 17, Qx 18 0 15, Qx 19 1 15, Qm 4 18, Qm 5 19] [0,2,4,5] [2,66,17300])
  (.seq (.reg [Qm 20 4, Qm 21 5, Q 22 (.not (.t 21)), Q 23 (.build [.str ⟨#[]⟩, .int .i64 0, .bool false] [(0, 1, .t 20), (2, 1, .t 22)]), Qv 24 23, Qm 6 24] [0,2,4,6] [2,24,66,17300])
  (.seq (.reg [Qm 25 6, Q 26 (.call 139 [.t 25] [0] []), Q 27 (.build [.int .i64 0, .int .i64 0, .nils 7, .nils 1] [(0, 1, .t 26)]), Q 7 (.alloc [.int .i64 0, .int .i64 0, .nils 7, .nils 1]),
    Qs 4 7 27] [0,2,4,6,7] [2,7,24,66,17300])
  (.seq (.reg [Qm 28 6, Q 29 (.call 139 [.t 28] [0] []), Qf 30 1 7, Qs 1 30 29] [0,2,4,6,7] [2,7,24,66,17300])
  (.seq (.reg [Qm 31 6, Q 32 (.call 139 [.t 31] [0] []), Qm 8 32] [0,2,4,6,7,8] [2,7,24,66,17300])
  (.seq (.seq (.reg [Qi 9 0] [0,2,4,6,7,8,9] [2,7,24,66,17300])
  (.block 0 (.loop spec_ReadStore.l0)))
  (.seq (.reg [Qm 72 6, Q 73 (.call 142 [.t 72, kI 20] [0] [(0, 17300)]), Qf 74 3 7, Qs 1 74 73] [0,2,6,7] [2,7,24,66,17300])
  (.seq (.reg [QL 76 4 7, Q 77 (.call 60 [.t 76] [] []), Qm 75 77, Qx 78 0 75, Qx 79 1 75, Qm 13 78, Qm 14 79] [0,2,6,7,13,14] [2,7,24,66,17300])
  (.seq (.seq (.reg [Qm 80 6, Q 81 (.nilc (.t 80)), Qf 82 2 81, Ql 83 82, Qm 84 83, Qg 85 (.mv (.t 14)) 84 false, Qg 86 (.not (.t 85)) 84 false, Q 87 (.pick (.t 84) (kB true) (.t 86)), Qm 88 87,
    Qg 89 (.mv (.t 13)) 88 false, Qg 90 (.mv (.t 0)) 88 false, Qg 91 (.bin .neq (.t 89) (.t 90)) 88 false, Q 92 (.pick (.t 88) (kB true) (.t 91))] [2,7,92] [2,7,66,17300])
  (.cond (.t 92) (.seq (.reg [Q 93 (.build [.int .i64 0, .int .i64 0, .nils 7, .nils 1] []), Qs 4 2 93, Qb 3 false] [2,3] [2,66,17300])
  (.ret)) (.skip)))
  (.seq (.reg [QL 94 4 7, Qs 4 2 94, Qb 3 true] [2,3] [2,66,17300])
  (.ret)))))))))))
def spec_ReadStore.m : Fn := { np := 1, body := spec_ReadStore.b, res := [.cell 2 true 4, .tmp 3] }
def spec_ReadStore.k (M : Nat → Option Body) : Prop := M 75 = some (.code spec_ReadStore.m) ∧ spec_ReadBox.k M ∧ spec_StoreText.k M ∧ spec_l05Var.k M ∧ spec_l10Ints.k M ∧ spec_Unsealed.k M
def impl_ReadStore.l0 : C := .seq (.reg [Q 28 (.bin .lss (.t 27) (.t 26))] [2,4,5,6,7,26,27,28] [2,7,17,35,13900])
  (.seq (.cond (.t 28) (.skip) (.exit 0))
  (.seq (.block 1 (.seq (.reg [Qm 29 6, Q 30 (.call 143 [.t 29] [0] []), Q 9 (.alloc [.int .i64 0, .str ⟨#[]⟩, .int .i64 0, .int .i64 0, .int .i64 0, .nils 4, .nils 1]), Qs 7 9 30] [2,4,5,6,7,9,26,27] [2,7,9,17,35,13900])
  (.reg [Qf 31 2 7, Ql 32 31, QL 33 7 9, Q 34 (.bslice 7 1 [.int .i64 0, .str ⟨#[]⟩, .int .i64 0, .int .i64 0, .int .i64 0, .nils 4, .nils 1] [(0, .t 33)]), Q 35 (.app 7 96 (.t 32) (.t 34)),
    Qf 36 2 7, Qs 1 36 35] [2,4,5,6,7,26,27] [2,7,17,35,13900])))
  (.reg [Q 37 (.bin .add (.t 27) (kI 1)), Qm 27 37] [2,4,5,6,7,26,27] [2,7,17,35,13900])))
def impl_ReadStore.b : C := .seq (.reg [Q 2 (.alloc [.int .i64 0, .int .i64 0, .nils 7, .nils 1]), Qb 3 false] [0,2] [2,35,13900])
  (.seq (.reg [Qm 11 0, Q 12 (.call 168 [.t 11] [] []), Qm 10 12, Qx 13 0 10, Qx 14 1 10, Qm 4 13, Qm 5 14] [2,4,5] [2,35,13900])
  (.seq (.reg [Qm 15 4, Q 16 (.build [.str ⟨#[]⟩, .int .i64 0, .bool false] [(0, 1, .t 15)]), Qv 17 16, Qm 6 17] [2,4,5,6] [2,17,35,13900])
  (.seq (.reg [Qm 18 6, Q 19 (.call 152 [.t 18] [0] []), Q 20 (.build [.int .i64 0, .int .i64 0, .nils 7, .nils 1] [(0, 1, .t 19)]), Q 7 (.alloc [.int .i64 0, .int .i64 0, .nils 7, .nils 1]),
    Qs 4 7 20] [2,4,5,6,7] [2,7,17,35,13900])
  (.seq (.reg [Qm 21 6, Q 22 (.call 152 [.t 21] [0] []), Qf 23 1 7, Qs 1 23 22] [2,4,5,6,7] [2,7,17,35,13900])
  (.seq (.reg [Qm 24 6, Q 25 (.call 169 [.t 24, kI 5] [0] []), Qm 8 25] [2,4,5,6,7,8] [2,7,17,35,13900])
  (.seq (.seq (.reg [Qm 26 8, Qi 27 0] [2,4,5,6,7,26,27] [2,7,17,35,13900])
  (.block 0 (.loop impl_ReadStore.l0)))
  (.seq (.reg [Qm 38 6, Q 39 (.call 170 [.t 38, kI 20] [0] [(0, 13900)]), Qf 40 3 7, Qs 1 40 39] [2,4,5,6,7] [2,7,17,35,13900])
  (.seq (.seq (.reg [Qm 41 5, Q 42 (.not (.t 41)), Qm 43 42, Qg 44 (.mv (.t 6)) 43 false, Qg 45 (.nilc (.t 44)) 43 false, Qg 46 (.faddr 2 (.t 45)) 43 false, Qg 47 (.load false 1 (.t 46)) 43 false,
    Q 48 (.pick (.t 43) (kB true) (.t 47)), Qm 49 48, Qg 50 (.mv (.t 6)) 49 false, Qg 51 (.nilc (.t 50)) 49 false, Qg 52 (.faddr 1 (.t 51)) 49 false,
    Qg 53 (.load false 1 (.t 52)) 49 false, Qg 54 (.mv (.t 4)) 49 false, Qg 55 (.slen (.t 54)) 49 false, Qg 56 (.bin .neq (.t 53) (.t 55)) 49 false,
    Q 57 (.pick (.t 49) (kB true) (.t 56)), Qm 58 57, Qg 59 (.load true 4 (.t 7)) 58 false, Qg 60 (.call 150 [.t 59] [] []) 58 false, Qg 61 (.not (.t 60)) 58 false,
    Q 62 (.pick (.t 58) (kB true) (.t 61))] [2,7,62] [2,7,35,13900])
  (.cond (.t 62) (.seq (.reg [Q 63 (.build [.int .i64 0, .int .i64 0, .nils 7, .nils 1] []), Qs 4 2 63, Qb 3 false] [2,3] [2,35,13900])
  (.ret)) (.skip)))
  (.seq (.reg [QL 64 4 7, Qs 4 2 64, Qb 3 true] [2,3] [2,35,13900])
  (.ret))))))))))
def impl_ReadStore.m : Fn := { np := 1, body := impl_ReadStore.b, res := [.cell 2 true 4, .tmp 3] }
def impl_ReadStore.k (M : Nat → Option Body) : Prop := M 76 = some (.code impl_ReadStore.m) ∧ impl_scan_box.k M ∧ impl_StoreOk.k M ∧ impl_scan_num.k M ∧ impl_Unsealed.k M ∧ impl_scan_many.k M ∧ impl_scan_nums.k M
end Mx

namespace Mx
open Go
def impl_StoreText.l0 : C := .seq (.reg [Q 23 (.bin .lss (.t 22) (.t 21))] [1,4,20,21,22,23] [1])
  (.seq (.cond (.t 23) (.skip) (.exit 0))
  (.seq (.block 1 (.seq (.reg [Qa 24 7 20 22, QL 25 7 24, Q 6 (.alloc [.int .i64 0, .str ⟨#[]⟩, .int .i64 0, .int .i64 0, .int .i64 0, .nils 4, .nils 1]), Qs 7 6 25] [1,4,6,20,21,22] [1,6])
  (.reg [Qm 26 4, QL 27 7 6, Q 28 (.call 123 [.t 27] [] []), Q 29 (.bin .add (.t 26) (.t 28)), Qm 4 29] [1,4,20,21,22] [1])))
  (.reg [Q 30 (.bin .add (.t 22) (kI 1)), Qm 22 30] [1,4,20,21,22] [1])))
def impl_StoreText.b : C := .seq (.reg [Qv 1 0, Q 2 (.mv (.k (.str ⟨#[]⟩))), Qb 3 false] [1] [1])
  (.seq (.seq (.reg [QL 7 4 1, Q 8 (.call 150 [.t 7] [] []), Q 9 (.not (.t 8))] [1,9] [1])
  (.cond (.t 9) (.seq (.reg [Q 2 (.mv (.k (.str ⟨#[]⟩))), Qb 3 false] [2,3] [])
  (.ret)) (.skip)))
  (.seq (.reg [Qf 10 0 1, Ql 11 10, Qf 12 1 1, Ql 13 12, Qf 14 2 1, Ql 15 14, Q 16 (.len (.t 15)), Q 17 (.bslice 1 3 [.int .i64 0] [(0, .t 11), (1, .t 13), (2, .t 16)]),
    Q 18 (.call 151 [.t 17] [] []), Qm 4 18] [1,4] [1])
  (.seq (.seq (.reg [Qf 19 2 1, Ql 20 19, Q 21 (.len (.t 20)), Qi 22 0] [1,4,20,21,22] [1])
  (.block 0 (.loop impl_StoreText.l0)))
  (.seq (.regd [Qm 31 4, Qf 32 3 1, Ql 33 32, Q 34 (.len (.t 33)), Q 35 (.bslice 1 1 [.int .i64 0] [(0, .t 34)]), Q 36 (.call 151 [.t 35] [] []), Q 37 (.bin .add (.t 31) (.t 36)), Qf 38 3 1,
    Ql 39 38, Q 40 (.call 151 [.t 39] [] []), Q 41 (.bin .add (.t 37) (.t 40)), Q 42 (.call 103 [.t 41] [] []), Qx 43 0 42, Qx 44 1 42, Qm 2 43, Qm 3 44] [[], [], [1], [1,2], [1,2,3], [1,2,3,4], lr 6, [], [7], [1,2,3,4,5,7,8], lr 10, lr 11, lr 12, lr 12, lr 14, lr 15] [2,3] [])
  (.ret)))))
def impl_StoreText.m : Fn := { np := 1, body := impl_StoreText.b, res := [.tmp 2, .tmp 3] }
def impl_StoreText.k (M : Nat → Option Body) : Prop := M 61 = some (.code impl_StoreText.m) ∧ impl_Sealed.k M ∧ impl_boxText.k M ∧ impl_StoreOk.k M ∧ impl_vars.k M
def spec_SameStore.b : C := .seq (.reg [Qv 2 0, Qv 3 1, Qb 4 false] [2,3] [2,3])
  (.seq (.reg [QL 10 4 2, Q 11 (.call 60 [.t 10] [] []), Qm 9 11, Qx 12 0 9, Qx 13 1 9, Qm 5 12, Qm 6 13] [3,5,6] [3])
  (.seq (.reg [QL 15 4 3, Q 16 (.call 60 [.t 15] [] []), Qm 14 16, Qx 17 0 14, Qx 18 1 14, Qm 7 17, Qm 8 18] [5,6,7,8] [])
  (.seq (.reg [Qm 19 6, Qm 20 8, Q 21 (.beq false (.t 19) (.t 20)), Qm 22 21, Qg 23 (.mv (.t 5)) 22 true, Qg 24 (.mv (.t 7)) 22 true, Qg 25 (.bin .eql (.t 23) (.t 24)) 22 true,
    Q 26 (.pick (.t 22) (.t 25) (kB false)), Qm 4 26] [4] [])
  (.ret))))
def spec_SameStore.m : Fn := { np := 2, body := spec_SameStore.b, res := [.tmp 4] }
def spec_SameStore.k (M : Nat → Option Body) : Prop := M 62 = some (.code spec_SameStore.m) ∧ spec_StoreText.k M
def impl_SameStore.b : C := .seq (.reg [Qv 2 0, Qv 3 1, Qb 4 false] [2,3] [2,3])
  (.seq (.reg [QL 10 4 2, Q 11 (.call 61 [.t 10] [] []), Qm 9 11, Qx 12 0 9, Qx 13 1 9, Qm 5 12, Qm 6 13] [3,5] [3])
  (.seq (.reg [QL 15 4 3, Q 16 (.call 61 [.t 15] [] []), Qm 14 16, Qx 17 0 14, Qx 18 1 14, Qm 7 17, Qm 8 18] [5,7] [])
  (.seq (.reg [Qm 19 5, Qm 20 7, Q 21 (.bin .eql (.t 19) (.t 20)), Qm 4 21] [4] [])
  (.ret))))
def impl_SameStore.m : Fn := { np := 2, body := impl_SameStore.b, res := [.tmp 4] }
def impl_SameStore.k (M : Nat → Option Body) : Prop := M 63 = some (.code impl_SameStore.m) ∧ impl_StoreText.k M
end Mx

namespace Mx
open Go
def impl_ReadBox.b : C := .seq (.reg [Q 4 (.alloc [.int .i64 0, .str ⟨#[]⟩, .int .i64 0, .int .i64 0, .int .i64 0, .nils 4, .nils 1]), Qi 5 0, Qb 6 false] [0,1,4] [4,11405,11406])
  (.seq (.reg [Qm 9 0, Qm 10 1, Q 11 (.build [.str ⟨#[]⟩, .int .i64 0, .bool false] [(0, 1, .t 9), (1, 1, .t 10)]), Qv 12 11, Qm 7 12] [4,7] [4,12,11405,11406])
  (.seq (.reg [Qm 13 7, Q 14 (.call 143 [.t 13] [0] [(5, 11405), (6, 11406)]), Q 8 (.alloc [.int .i64 0, .str ⟨#[]⟩, .int .i64 0, .int .i64 0, .int .i64 0, .nils 4, .nils 1]), Qs 7 8 14] [4,7,8] [4,8,12,11405,11406])
  (.seq (.seq (.reg [Qm 15 7, Q 16 (.nilc (.t 15)), Qf 17 2 16, Ql 18 17, Qm 19 18, Qg 20 (.load true 7 (.t 8)) 19 false, Qg 21 (.call 74 [.t 20] [] []) 19 false, Qg 22 (.not (.t 21)) 19 false,
    Q 23 (.pick (.t 19) (kB true) (.t 22))] [4,7,8,23] [4,8,12,11405,11406])
  (.cond (.t 23) (.seq (.reg [Q 24 (.build [.int .i64 0, .str ⟨#[]⟩, .int .i64 0, .int .i64 0, .int .i64 0, .nils 4, .nils 1] []), Qs 7 4 24, Qi 5 0, Qb 6 false] [4,5,6] [4,11405,11406])
  (.ret)) (.skip)))
  (.seq (.regd [QL 25 7 8, Qm 26 7, Q 27 (.nilc (.t 26)), Qf 28 1 27, Ql 29 28, Qs 7 4 25, Qm 5 29, Qb 6 true] [[], [], [1], [1,2], [1,2,3], [0], lr 6, lr 7] [4,5,6] [4,11405,11406])
  (.ret)))))
def impl_ReadBox.m : Fn := { np := 2, body := impl_ReadBox.b, res := [.cell 4 true 7, .tmp 5, .tmp 6] }
def impl_ReadBox.k (M : Nat → Option Body) : Prop := M 53 = some (.code impl_ReadBox.m) ∧ impl_BoxOk.k M ∧ impl_scan_box.k M
def spec_DrawStoreText.b : C := .seq (.reg [Q 2 (.alloc [.int .i64 0, .int .i64 0, .nils 7, .nils 1])] [0,2] [2])
  (.seq (.reg [Qm 3 0, Q 4 (.call 124 [.t 3] [] [(0, 10400)]), Q 5 (.call 443 [.t 4] [0] []), Qs 4 2 5] [2] [2])
  (.ret))
def spec_DrawStoreText.m : Fn := { np := 1, body := spec_DrawStoreText.b, res := [.cell 2 true 4] }
def spec_DrawStoreText.k (M : Nat → Option Body) : Prop := M 416 = some (.code spec_DrawStoreText.m) ∧ spec_l01New.k M ∧ spec_l07Any.k M
def spec_DrawReadStore.b : C := .seq (.reg [Q 2 (.mv (.k (.str ⟨#[]⟩)))] [0] [])
  (.seq (.reg [Qm 9 0, Q 10 (.call 124 [.t 9] [] [(0, 11000)]), Qm 3 10] [3] [11000])
  (.seq (.reg [Qm 11 3, Q 12 (.call 125 [.t 11, kI 3] [0] []), Qm 4 12] [3,4] [11000])
  (.seq (.reg [Qm 14 3, Q 15 (.call 443 [.t 14] [0] []), Q 16 (.call 60 [.t 15] [] []), Qm 13 16, Qx 17 0 13, Qx 18 1 13, Qm 5 17, Qm 6 18] [3,4,5] [11000])
  (.seq (.seq (.reg [Qm 19 4, Q 20 (.bin .eql (.t 19) (kI 0))] [3,5,20] [11000])
  (.cond (.t 20) (.seq (.reg [Qm 22 5, Q 23 (.call 167 [.t 22] [] []), Qm 21 23, Qx 24 0 21, Qx 25 1 21, Qm 7 24, Qm 8 25] [3,5,7,8] [11000])
  (.seq (.reg [Qm 26 8] [3,5,7,26] [11000])
  (.cond (.t 26) (.reg [Qm 28 3, Qm 29 7, Q 30 (.call 444 [.t 28, .t 29] [0] []), Q 31 (.call 100 [.t 30] [] []), Qm 27 31, Qx 32 0 27, Qx 33 1 27, Qm 5 32] [5] []) (.skip)))) (.skip)))
  (.seq (.reg [Qm 34 5, Qm 2 34] [2] [])
  (.ret))))))
def spec_DrawReadStore.m : Fn := { np := 1, body := spec_DrawReadStore.b, res := [.tmp 2] }
def spec_DrawReadStore.k (M : Nat → Option Body) : Prop := M 417 = some (.code spec_DrawReadStore.m) ∧ spec_StoreText.k M ∧ spec_Sealed.k M ∧ spec_l01New.k M ∧ spec_l01Below.k M ∧ spec_Unsealed.k M ∧ spec_l07Any.k M ∧ spec_l02Spoilt.k M
def spec_DrawBoxText.b : C := .seq (.reg [Q 2 (.alloc [.int .i64 0, .str ⟨#[]⟩, .int .i64 0, .int .i64 0, .int .i64 0, .nils 4, .nils 1])] [0,2] [2])
  (.seq (.reg [Qm 3 0, Q 4 (.call 124 [.t 3] [] [(0, 10400)]), Q 5 (.call 173 [.t 4] [0] []), Qs 7 2 5] [2] [2])
  (.ret))
def spec_DrawBoxText.m : Fn := { np := 1, body := spec_DrawBoxText.b, res := [.cell 2 true 7] }
def spec_DrawBoxText.k (M : Nat → Option Body) : Prop := M 418 = some (.code spec_DrawBoxText.m) ∧ spec_l01New.k M ∧ spec_l06Any.k M
def spec_DrawReadBox.b : C := .seq (.reg [Q 2 (.mv (.k (.str ⟨#[]⟩))), Qi 3 0] [0] [])
  (.seq (.reg [Qm 8 0, Q 9 (.call 124 [.t 8] [] [(0, 10900)]), Qm 4 9] [4] [10900])
  (.seq (.reg [Qm 10 4, Q 11 (.call 125 [.t 10, kI 4] [0] []), Qm 5 11] [4,5] [10900])
  (.seq (.reg [Qm 13 4, Q 14 (.call 173 [.t 13] [0] []), Q 15 (.call 34 [.t 14] [] []), Qm 12 15, Qx 16 0 12, Qx 17 1 12, Qm 6 16, Qm 7 17] [4,5,6] [10900])
  (.seq (.seq (.reg [Qm 18 5] [4,6,18] [10900])
  (.block 0 (.seq (.reg [Q 20 (.bin .eql (.t 18) (kI 0)), Qm 19 20] [4,6,18,19] [10900])
  (.cond (.t 19) (.seq (.reg [Qm 21 4, Qm 22 6, Q 23 (.call 444 [.t 21, .t 22] [0] []), Qm 2 23, Qi 3 0] [2,3] [])
  (.ret)) (.seq (.reg [Q 25 (.bin .eql (.t 18) (kI 1)), Qm 24 25] [6,24] [])
  (.cond (.t 24) (.seq (.reg [Qm 26 6, Q 27 (.bin .add (.k (.str ⟨#[120]⟩)) (.t 26)), Qm 2 27, Qi 3 1] [2,3] [])
  (.ret)) (.skip)))))))
  (.seq (.reg [Qm 28 6, Q 29 (.bin .add (.t 28) (.k (.str ⟨#[109,111,114,101]⟩))), Qm 2 29, Qi 3 0] [2,3] [])
  (.ret))))))
def spec_DrawReadBox.m : Fn := { np := 1, body := spec_DrawReadBox.b, res := [.tmp 2, .tmp 3] }
def spec_DrawReadBox.k (M : Nat → Option Body) : Prop := M 419 = some (.code spec_DrawReadBox.m) ∧ spec_BoxText.k M ∧ spec_l01New.k M ∧ spec_l01Below.k M ∧ spec_l06Any.k M ∧ spec_l02Spoilt.k M
def spec_DrawSameStore.b : C := .seq (.reg [Q 2 (.alloc [.int .i64 0, .int .i64 0, .nils 7, .nils 1]), Q 3 (.alloc [.int .i64 0, .int .i64 0, .nils 7, .nils 1])] [0,2,3] [2,3])
  (.seq (.reg [Qm 6 0, Q 7 (.call 124 [.t 6] [] [(0, 10700)]), Qm 4 7] [2,3,4] [2,3,10700])
  (.seq (.reg [Qm 8 4, Q 9 (.call 443 [.t 8] [0] []), Q 5 (.alloc [.int .i64 0, .int .i64 0, .nils 7, .nils 1]), Qs 4 5 9] [2,3,4,5] [2,3,5,10700])
  (.seq (.seq (.reg [Qm 10 4, Q 11 (.call 175 [.t 10, kI 2] [0] [])] [2,3,4,5,11] [2,3,5,10700])
  (.cond (.t 11) (.seq (.shut [] (.regd [QL 12 4 5, QL 13 4 5, Q 14 (.call 219 [.t 13] [] []), Qs 4 2 12, Qs 4 3 14] [[], [], [1], [0,1,2], lr 4] [2,3] [2,3]))
  (.ret)) (.skip)))
  (.seq (.regd [QL 15 4 5, Qm 16 4, Q 17 (.call 443 [.t 16] [0] []), Qs 4 2 15, Qs 4 3 17] [[], [], [1], [0,1,2], lr 4] [2,3] [2,3])
  (.ret)))))
def spec_DrawSameStore.m : Fn := { np := 1, body := spec_DrawSameStore.b, res := [.cell 2 true 4, .cell 3 true 4] }
def spec_DrawSameStore.k (M : Nat → Option Body) : Prop := M 420 = some (.code spec_DrawSameStore.m) ∧ spec_l01New.k M ∧ spec_l01Once.k M ∧ spec_l07Copy.k M ∧ spec_l07Any.k M
def laws_FnTexts.fin : C := .seq (.regd [Qm 101 5, QL 102 4 3, Q 103 (.call 149 [.t 102] [] []), Q 104 (.beq false (.t 101) (.t 103)), Qm 105 104, Qg 106 (.mv (.t 5)) 105 true, Qg 107 (.not (.t 106)) 105 true,
    Qg 108 (.mv (.t 107)) 105 true, Qg 109 (.mv (.t 7)) 108 false, Qg 110 (.mv (.t 109)) 108 false, Qg 111 (.load true 4 (.t 6)) 110 true, Qg 112 (.load true 4 (.t 3)) 110 true,
    Qg 113 (.call 421 [.t 111, .t 112] [] []) 110 true, Qg 114 (.pick (.t 110) (.t 113) (kB false)) 108 false, Qg 115 (.pick (.t 108) (kB true) (.t 114)) 105 true,
    Q 116 (.pick (.t 105) (.t 115) (kB false)), Qm 117 116, Qg 118 (.mv (.t 10)) 117 true, Qg 119 (.mv (.t 12)) 117 true, Qg 120 (.beq false (.t 118) (.t 119)) 117 true,
    Q 121 (.pick (.t 117) (.t 120) (kB false)), Qm 122 121, Qg 123 (.mv (.t 10)) 122 true, Qg 124 (.not (.t 123)) 122 true, Qg 125 (.mv (.t 124)) 122 true,
    Qg 126 (.mv (.t 13)) 125 false, Qg 127 (.mv (.t 8)) 125 false, Qg 128 (.bin .eql (.t 126) (.t 127)) 125 false, Qg 129 (.pick (.t 125) (kB true) (.t 128)) 122 true,
    Q 130 (.pick (.t 122) (.t 129) (kB false)), Qm 131 130, Qg 132 (.mv (.t 17)) 131 true, Qg 133 (.load true 7 (.t 15)) 131 true, Qg 134 (.call 88 [.t 133] [] []) 131 true,
    Qg 135 (.beq false (.t 132) (.t 134)) 131 true, Q 136 (.pick (.t 131) (.t 135) (kB false)), Qm 137 136, Qg 138 (.mv (.t 17)) 137 true, Qg 139 (.not (.t 138)) 137 true,
    Qg 140 (.mv (.t 139)) 137 true, Qg 141 (.mv (.t 20)) 140 false, Qg 142 (.mv (.t 141)) 140 false, Qg 143 (.load true 7 (.t 18)) 142 true, Qg 144 (.load true 7 (.t 15)) 142 true,
    Qg 145 (.call 71 [.t 143, .t 144] [] []) 142 true, Qg 146 (.pick (.t 142) (.t 145) (kB false)) 140 false, Qg 147 (.mv (.t 146)) 140 false, Qg 148 (.mv (.t 19)) 147 true,
    Qg 149 (.mv (.t 16)) 147 true, Qg 150 (.slen (.t 149)) 147 true, Qg 151 (.bin .add (kI 1) (.t 150)) 147 true, Qg 152 (.bin .eql (.t 148) (.t 151)) 147 true,
    Qg 153 (.pick (.t 147) (.t 152) (kB false)) 140 false, Qg 154 (.pick (.t 140) (kB true) (.t 153)) 137 true, Q 155 (.pick (.t 137) (.t 154) (kB false)), Qm 156 155,
    Qg 157 (.mv (.t 25)) 156 true, Qg 158 (.mv (.t 28)) 156 true, Qg 159 (.beq false (.t 157) (.t 158)) 156 true, Q 160 (.pick (.t 156) (.t 159) (kB false)), Qm 161 160,
    Qg 162 (.mv (.t 24)) 161 true, Qg 163 (.mv (.t 27)) 161 true, Qg 164 (.bin .eql (.t 162) (.t 163)) 161 true, Q 165 (.pick (.t 161) (.t 164) (kB false)), Qm 166 165,
    Qg 167 (.load true 7 (.t 23)) 166 true, Qg 168 (.load true 7 (.t 26)) 166 true, Qg 169 (.call 71 [.t 167, .t 168] [] []) 166 true, Q 170 (.pick (.t 166) (.t 169) (kB false)),
    Qm 171 170, Qg 172 (.load true 4 (.t 29)) 171 true, Qg 173 (.load true 4 (.t 30)) 171 true, Qg 174 (.call 63 [.t 172, .t 173] [] []) 171 true,
    Qg 175 (.load true 4 (.t 29)) 171 true, Qg 176 (.load true 4 (.t 30)) 171 true, Qg 177 (.call 62 [.t 175, .t 176] [] []) 171 true, Qg 178 (.beq false (.t 174) (.t 177)) 171 true,
    Q 179 (.pick (.t 171) (.t 178) (kB false)), Qm 2 179] [[], [], [1], [0,1,2], lr 4, lr 5, lr 6, lr 7, lr 8, lr 9, lr 10, lr 10, lr 12, lr 13, lr 14, lr 15, lr 16, lr 17, lr 17, lr 19, lr 20, lr 21, lr 22, lr 23, lr 24, lr 25, lr 25, lr 27, lr 28, lr 29, lr 30, lr 31, lr 31, lr 31 ++ [32], lr 34, lr 35, lr 36, lr 37, lr 38, lr 39, lr 40, lr 41, lr 42, lr 42, lr 44, lr 45, lr 46, lr 47, lr 47, lr 47 ++ [48], lr 47 ++ [48,49], lr 51, lr 52, lr 53, lr 54, lr 55, lr 56, lr 56, lr 58, lr 59, lr 60, lr 61, lr 61, lr 63, lr 64, lr 65, lr 66, lr 66, lr 68, lr 69, lr 70, lr 71, lr 71, lr 73, lr 71, lr 71, lr 76, lr 77, lr 78, lr 79] [2] [])
  (.ret)
def laws_FnTexts.b : C := .seq (.reg [Qb 2 false] [0] [])
  (.seq (.seq (.reg [Qm 31 0, Q 32 (.call 36 [.t 31] [] [])] [0,32] [])
  (.cond (.t 32) (.seq (.reg [Qb 2 true] [2] [])
  (.ret)) (.skip)))
  (.seq (.reg [Qm 33 0, Q 34 (.call 416 [.t 33] [] []), Q 3 (.alloc [.int .i64 0, .int .i64 0, .nils 7, .nils 1]), Qs 4 3 34] [0,3] [3])
  (.seq (.reg [QL 36 4 3, Q 37 (.call 61 [.t 36] [] []), Qm 35 37, Qx 38 0 35, Qx 39 1 35, Qm 4 38, Qm 5 39] [0,3,4,5] [3])
  (.seq (.reg [Qm 41 4, Q 42 (.call 76 [.t 41] [] []), Qm 40 42, Qx 43 0 40, Qx 44 1 40, Q 6 (.alloc [.int .i64 0, .int .i64 0, .nils 7, .nils 1]), Qs 4 6 43, Qm 7 44] [0,3,5,6,7] [3,6])
  (.seq (.reg [Qm 45 0, Q 46 (.call 417 [.t 45] [] []), Qm 8 46] [0,3,5,6,7,8] [3,6])
  (.seq (.reg [Qm 48 8, Q 49 (.call 76 [.t 48] [] []), Qm 47 49, Qx 50 0 47, Qx 51 1 47, Q 9 (.alloc [.int .i64 0, .int .i64 0, .nils 7, .nils 1]), Qs 4 9 50, Qm 10 51] [0,3,5,6,7,8,9,10] [3,6,9])
  (.seq (.reg [Qm 53 8, Q 54 (.call 75 [.t 53] [] []), Qm 52 54, Qx 55 0 52, Qx 56 1 52, Q 11 (.alloc [.int .i64 0, .int .i64 0, .nils 7, .nils 1]), Qs 4 11 55, Qm 12 56] [0,3,5,6,7,8,9,10,12] [3,6,9])
  (.seq (.reg [QL 58 4 9, Q 59 (.call 61 [.t 58] [] []), Qm 57 59, Qx 60 0 57, Qx 61 1 57, Qm 13 60, Qm 14 61] [0,3,5,6,7,8,10,12,13] [3,6])
  (.seq (.reg [Qm 62 0, Q 63 (.call 418 [.t 62] [] []), Q 15 (.alloc [.int .i64 0, .str ⟨#[]⟩, .int .i64 0, .int .i64 0, .int .i64 0, .nils 4, .nils 1]), Qs 7 15 63] [0,3,5,6,7,8,10,12,13,15] [3,6,15])
  (.seq (.reg [QL 65 7 15, Q 66 (.call 35 [.t 65] [] []), Qm 64 66, Qx 67 0 64, Qx 68 1 64, Qm 16 67, Qm 17 68] [0,3,5,6,7,8,10,12,13,15,16,17] [3,6,15])
  (.seq (.reg [Qm 70 16, Q 71 (.bin .add (.k (.str ⟨#[120]⟩)) (.t 70)), Q 72 (.bin .add (.t 71) (.k (.str ⟨#[121]⟩))), Q 73 (.call 53 [.t 72, kI 1] [] []), Qm 69 73, Qx 74 0 69, Qx 75 1 69,
    Qx 76 2 69, Q 18 (.alloc [.int .i64 0, .str ⟨#[]⟩, .int .i64 0, .int .i64 0, .int .i64 0, .nils 4, .nils 1]), Qs 7 18 74, Qm 19 75, Qm 20 76] [0,3,5,6,7,8,10,12,13,15,16,17,18,19,20] [3,6,15,18])
  (.seq (.reg [Qm 78 0, Q 79 (.call 419 [.t 78] [] []), Qm 77 79, Qx 80 0 77, Qx 81 1 77, Qm 21 80, Qm 22 81] [0,3,5,6,7,8,10,12,13,15,16,17,18,19,20,21,22] [3,6,15,18])
  (.seq (.reg [Qm 83 21, Qm 84 22, Q 85 (.call 53 [.t 83, .t 84] [] []), Qm 82 85, Qx 86 0 82, Qx 87 1 82, Qx 88 2 82,
    Q 23 (.alloc [.int .i64 0, .str ⟨#[]⟩, .int .i64 0, .int .i64 0, .int .i64 0, .nils 4, .nils 1]), Qs 7 23 86, Qm 24 87, Qm 25 88] [0,3,5,6,7,8,10,12,13,15,16,17,18,19,20,21,22,23,24,25] [3,6,15,18,23])
  (.seq (.reg [Qm 90 21, Qm 91 22, Q 92 (.call 52 [.t 90, .t 91] [] []), Qm 89 92, Qx 93 0 89, Qx 94 1 89, Qx 95 2 89,
    Q 26 (.alloc [.int .i64 0, .str ⟨#[]⟩, .int .i64 0, .int .i64 0, .int .i64 0, .nils 4, .nils 1]), Qs 7 26 93, Qm 27 94, Qm 28 95] [0,3,5,6,7,8,10,12,13,15,16,17,18,19,20,23,24,25,26,27,28] [3,6,15,18,23,26])
  (.seq (.reg [Qm 97 0, Q 98 (.call 420 [.t 97] [] []), Qm 96 98, Qx 99 0 96, Qx 100 1 96, Q 29 (.alloc [.int .i64 0, .int .i64 0, .nils 7, .nils 1]),
    Q 30 (.alloc [.int .i64 0, .int .i64 0, .nils 7, .nils 1]), Qs 4 29 99, Qs 4 30 100] [3,5,6,7,8,10,12,13,15,16,17,18,19,20,23,24,25,26,27,28,29,30] [3,6,15,18,23,26,29,30])
  laws_FnTexts.fin)))))))))))))))
def laws_FnTexts.m : Fn := { np := 1, body := laws_FnTexts.b, res := [.tmp 2] }
def laws_FnTexts.k (M : Nat → Option Body) : Prop := M 396 = some (.code laws_FnTexts.m) ∧ impl_BoxText.k M ∧ laws_big.k M ∧ spec_ReadBox.k M ∧ impl_ReadBox.k M ∧ impl_StoreText.k M ∧ spec_SameStore.k M ∧ impl_SameStore.k M ∧ laws_sameBox.k M ∧ spec_ReadStore.k M ∧ impl_ReadStore.k M ∧ spec_BoxOk.k M ∧ spec_StoreOk.k M ∧ spec_DrawStoreText.k M ∧ spec_DrawReadStore.k M ∧ spec_DrawBoxText.k M ∧ spec_DrawReadBox.k M ∧ spec_DrawSameStore.k M ∧ laws_sameAll.k M
end Mx

namespace Mx
open Go
def gput (l : List Int) (x : Int) : List Int := l.filter (fun y => decide (y < x)) ++ [x] ++ l.filter (fun y => decide (x < y))
def gadd (l : List Int) (x : Int) : List Int := if x ∈ l then l else gput l x
def joinGone (a b : List Int) : List Int := (a ++ b).foldl gadd []
abbrev Asc (l : List Int) : Prop := l.Pairwise (· < ·)
theorem gput_mem {l : List Int} {x z : Int} : z ∈ gput l x ↔ z = x ∨ z ∈ l := by
  simp only [gput, List.mem_append, List.mem_filter, decide_eq_true_eq, List.mem_singleton]
  constructor
  · rintro ((⟨h, _⟩ | h) | ⟨h, _⟩)
    · exact .inr h
    · exact .inl h
    · exact .inr h
  · rintro (h | h)
    · exact .inl (.inr h)
    · by_cases c : z < x
      · exact .inl (.inl ⟨h, c⟩)
      · by_cases c2 : z = x
        · exact .inl (.inr c2)
        · exact .inr ⟨h, by omega⟩
theorem gput_asc {l : List Int} {x : Int} (h : Asc l) : Asc (gput l x) := by
  simp only [gput, Asc, List.pairwise_append, List.pairwise_singleton, List.mem_filter, decide_eq_true_eq, List.mem_singleton, List.mem_append]
  refine ⟨⟨h.filter _, trivial, ?_⟩, h.filter _, ?_⟩
  · rintro a ⟨_, ha⟩ b rfl; exact ha
  · rintro a (⟨_, ha⟩ | rfl) b ⟨_, hb⟩ <;> omega
end Mx

namespace Mx
open Go
theorem wrap_u8 (x : Int) : IntKind.u8.wrap x = x % 256 := by
  unfold IntKind.wrap; simp [IntKind.bits, IntKind.signed]
theorem wrap_u32 (x : Int) : IntKind.u32.wrap x = x % 4294967296 := by
  unfold IntKind.wrap; simp [IntKind.bits, IntKind.signed]
theorem andI_eq (k : IntKind) (x y : Int) : andI k x y = k.wrap (((x % ((2 ^ k.bits : Nat) : Int)).toNat &&& (y % ((2 ^ k.bits : Nat) : Int)).toNat : Nat) : Int) := by
  unfold andI; rw [BitVec.toNat_and, BitVec.toNat_ofInt, BitVec.toNat_ofInt]
theorem orI_eq (k : IntKind) (x y : Int) : orI k x y = k.wrap (((x % ((2 ^ k.bits : Nat) : Int)).toNat ||| (y % ((2 ^ k.bits : Nat) : Int)).toNat : Nat) : Int) := by
  unfold orI; rw [BitVec.toNat_or, BitVec.toNat_ofInt, BitVec.toNat_ofInt]
theorem and_i64 (n m : Nat) (hn : n < 9223372036854775808) (hm : m < 9223372036854775808) : andI .i64 n m = ((n &&& m : Nat) : Int) := by
  rw [andI_eq]
  have e : ∀ k : Nat, k < 9223372036854775808 → ((k : Int) % ((2 ^ IntKind.i64.bits : Nat) : Int)).toNat = k := by
    intro k hk
    show ((k : Int) % 18446744073709551616).toNat = k
    omega
  rw [e n hn, e m hm]
  have : n &&& m ≤ n := Nat.and_le_left
  exact wrap_i64 (by omega) (by omega)
theorem or_i64 (n m : Nat) (hn : n < 9223372036854775808) (hm : m < 9223372036854775808) : orI .i64 n m = ((n ||| m : Nat) : Int) := by
  rw [orI_eq]
  have e : ∀ k : Nat, k < 9223372036854775808 → ((k : Int) % ((2 ^ IntKind.i64.bits : Nat) : Int)).toNat = k := by
    intro k hk
    show ((k : Int) % 18446744073709551616).toNat = k
    omega
  rw [e n hn, e m hm]
  have : n ||| m < 2 ^ 63 := Nat.or_lt_two_pow (by omega) (by omega)
  exact wrap_i64 (by omega) (by omega)
theorem and_u8 (n m : Nat) (hn : n < 256) (hm : m < 256) : andI .u8 n m = ((n &&& m : Nat) : Int) := by
  rw [andI_eq]
  have e : ∀ k : Nat, k < 256 → ((k : Int) % ((2 ^ IntKind.u8.bits : Nat) : Int)).toNat = k := by
    intro k hk
    show ((k : Int) % 256).toNat = k
    omega
  rw [e n hn, e m hm, wrap_u8]
  have : n &&& m ≤ n := Nat.and_le_left
  omega
theorem and_127 (n : Nat) : n &&& 127 = n % 128 := Nat.and_two_pow_sub_one_eq_mod n 7
theorem or_128 (n : Nat) (h : n < 128) : n ||| 128 = n + 128 := by
  have := Nat.two_pow_add_eq_or_of_lt (i := 7) (b := n) h 1
  rw [Nat.or_comm]
  have e : 2 ^ 7 * 1 = 128 := by decide
  rw [e] at this
  omega
/-- digits above stand for themselves -/
theorem or_high (n d k : Nat) (h : n < 128 ^ k) : n ||| d * 128 ^ k = n + d * 128 ^ k := by
  have e : (128 : Nat) ^ k = 2 ^ (7 * k) := by rw [show (128 : Nat) = 2 ^ 7 by decide, ← Nat.pow_mul]
  rw [e] at h ⊢
  have := Nat.two_pow_add_eq_or_of_lt (i := 7 * k) (b := n) h d
  rw [Nat.or_comm, Nat.mul_comm d, ← this, Nat.add_comm]
theorem brow_nil : brow [] = [] := rfl
theorem brow1 (b : UInt8) : [[T.int .u8 (b.toNat : Int)]] = brow [b] := rfl
theorem ofNat_toNat (n : Nat) : ((UInt8.ofNat n).toNat : Int) = (n : Int) % 256 := by simp
attribute [simp] brow_nil
end Mx

namespace Mx
open Go
variable {M : Nat → Option Body}
theorem impl_within.says (h : impl_within.k M) (n a b : Int) : run M 101 [.c (I n), .c (I a), .c (I b)] [] = some (.c (.bool (decide (a ≤ n) && decide (n ≤ b))), []) := by
  refine run_code (b := impl_within.m) h ⟨0, ?_⟩
  by_cases h : a ≤ n
  · have h' : n ≥ a := h
    simp [exB, impl_within.m, impl_within.b, List.range_succ, h]
  · have h' : ¬ n ≥ a := h
    simp [exB, impl_within.m, impl_within.b, List.range_succ, h]
theorem spec_l01In.says (h : spec_l01In.k M) (n a b : Int) : run M 98 [.c (I n), .c (I a), .c (I b)] [] = some (.c (.bool (decide (a ≤ n) && decide (n ≤ b))), []) := by
  refine run_code (b := spec_l01In.m) h ⟨0, ?_⟩
  by_cases h : a ≤ n
  · have h' : n ≥ a := h
    simp [exB, spec_l01In.m, spec_l01In.b, List.range_succ, h]
  · have h' : ¬ n ≥ a := h
    simp [exB, spec_l01In.m, spec_l01In.b, List.range_succ, h]
end Mx

namespace Mx
open Go
variable {M : Nat → Option Body}
/-- the bytes ahead of the last, and the last -/
def varP (n : Nat) : List UInt8 × Nat := if n > 127 then let r := varP (n / 128); (UInt8.ofNat (n % 128 + 128) :: r.1, r.2) else ([], n)
termination_by n
decreasing_by omega
theorem varP_low {n : Nat} (h : ¬ n > 127) : varP n = ([], n) := by rw [varP, if_neg h]
theorem varP_high {n : Nat} (h : n > 127) : varP n = (UInt8.ofNat (n % 128 + 128) :: (varP (n / 128)).1, (varP (n / 128)).2) := by rw [varP, if_pos h]
def varT (n : Nat) : List UInt8 := (varP n).1 ++ [UInt8.ofNat (varP n).2]
theorem varP_len : ∀ (k n : Nat), n < 128 ^ k → (varP n).1.length ≤ k := by
  intro k
  induction k with
  | zero => intro n h; have : n = 0 := by simpa using h
            subst this; rw [varP_low (by omega)]; simp
  | succ k ih =>
    intro n h
    by_cases hc : n > 127
    · rw [varP_high hc]
      have := ih (n / 128) (by rw [Nat.pow_succ] at h; omega)
      simp; omega
    · rw [varP_low hc]; simp
theorem varT_len {n : Nat} (h : n ≤ 9223372036854775807) : (varT n).length ≤ 10 := by
  have := varP_len 9 n (by omega)
  simp [varT]; omega
def spV (a b c : Nat) (s : Nat × List UInt8) (x : Nat × Nat) : St := { t := [(0, .c (I s.1)), (b, .c (.row a x.1 0 s.2.length))], o := [(a, ⟨x.1, 1, true, false, brow s.2⟩)], n := x.2 }
def vInv (s : Nat × List UInt8) : Prop := s.1 ≤ 9223372036854775807 ∧ ∃ k, s.1 < 128 ^ k ∧ s.2.length + k ≤ 20
theorem vInv_step {n : Nat} {acc : List UInt8} (h : vInv (n, acc)) (hc : n > 127) (b : UInt8) : vInv (n / 128, acc ++ [b]) := by
  obtain ⟨h1, k, h2, h3⟩ := h
  simp only at h1 h2 h3
  cases k with
  | zero => simp at h2; omega
  | succ k => exact ⟨by simp only; omega, k, by simp only; rw [Nat.pow_succ] at h2; omega, by simp; omega⟩
theorem spec_l01Var.says (h : spec_l01Var.k M) (n : Nat) (hn : n ≤ 9223372036854775807) : run M 99 [.c (I n)] [] = some (.c (S (varT n)), []) := by
  refine run_code (b := spec_l01Var.m) h ⟨n + 1, ?_⟩
  obtain ⟨g, hr⟩ := loop_all (f := exC (run M) (n + 1) spec_l01Var.l0) (spV 4 3 6) vInv (fun s => s.1) (fun s => (s.2 ++ (varP s.1).1, (varP s.1).2))
    (fun q (m : Nat × Nat) => (.exit 0, { t := [(0, .c (I q.2)), (3, .c (.row 4 m.1 0 q.1.length)), (6, .c (.bool false))], o := [(4, ⟨m.1, 1, true, false, brow q.1⟩)], n := m.2 }))
    (by
      rintro ⟨i, acc⟩ ⟨v, x⟩ hi
      by_cases hc : i > 127
      · left
        have hb := hi.1
        obtain ⟨k, hk1, hk2⟩ := hi.2
        simp only at hb hk1 hk2
        have e1 : IntKind.i64.wrap ((i : Int).tmod 128 + 128) = ((i % 128 + 128 : Nat) : Int) := by
          rw [Int.tmod_eq_emod_of_nonneg (by omega), wrap_i64 (by omega) (by omega)]; omega
        have e2 : IntKind.i64.wrap ((i : Int) / 128) = (i : Int) / 128 := wrap_i64 (by omega) (by omega)
        have e3 : IntKind.u8.wrap ((i % 128 + 128 : Nat) : Int) = ((UInt8.ofNat (i % 128 + 128)).toNat : Int) := by rw [ofNat_toNat, wrap_u8]
        have hc' : (127 : Int) < i := by omega
        have e4 : acc.length + 1 ≤ 4294967296 := by omega
        generalize hb : UInt8.ofNat (i % 128 + 128) = b at e3
        obtain ⟨y, hy⟩ : ∃ y, exC (run M) (n + 1) spec_l01Var.l0 (spV 4 3 6 (i, acc) (v, x)) = some (.normal, spV 4 3 6 (i / 128, acc ++ [b]) y) := by
          simp only [Prod.exists]
          simp only [spV, spec_l01Var.l0]
          simp only [Int.natCast_add, Int.natCast_emod, Int.cast_ofNat_Int] at e1 e3
          simp [hc', e1, e2, e3, e4, brow1, List.take_of_length_le]
        refine ⟨(i / 128, acc ++ [b]), y, hy, vInv_step hi hc b, by simp only; omega, ?_⟩
        simp only [varP_high hc, hb, List.append_assoc, List.cons_append, List.nil_append]
      · right
        have hc' : ¬ (127 : Int) < i := by omega
        refine ⟨(v, x + 32), ?_, by simp⟩
        simp only [varP_low hc, List.append_nil]
        simp [spV, spec_l01Var.l0, hc'])
    (n + 1) (n, []) ⟨hn, 9, by simp only; omega, by simp⟩ (by simp)
  have hl := varP_len 9 n (by omega)
  have e3 : IntKind.u8.wrap ((varP n).2 : Int) = ((UInt8.ofNat (varP n).2).toNat : Int) := by rw [ofNat_toNat, wrap_u8]
  have e4 : (varP n).1.length + 1 ≤ 4294967296 := by omega
  simp only [List.nil_append] at hr
  simp [spV, -List.nil_append] at hr
  generalize hb : UInt8.ofNat (varP n).2 = b at e3
  have hv : varT n = (varP n).1 ++ [b] := by rw [← hb]; rfl
  rw [hv]
  simp [exB, spec_l01Var.m, spec_l01Var.b, List.range_succ, hr, e3, e4, brow1, List.take_of_length_le]
theorem or_and (n : Nat) (h : n < 9223372036854775808) : orI .i64 (andI .i64 n 127) 128 = ((n % 128 + 128 : Nat) : Int) := by
  have e1 := and_i64 n 127 h (by omega)
  have e2 := or_i64 (n % 128) 128 (by omega) (by omega)
  rw [and_127] at e1
  rw [or_128 _ (by omega)] at e2
  rw [show (127 : Int) = ((127 : Nat) : Int) from rfl, e1]
  exact e2
theorem impl_VarText.says (h : impl_VarText.k M) (n : Nat) (hn : n ≤ 9223372036854775807) : run M 230 [.c (I n)] [] = some (.tup [.c (S (if n ≤ 1000000000 then varT n else [])), .c (.bool (decide (n ≤ 1000000000)))], []) := by
  have hw := impl_within.says h.2 n 0 1000000000
  refine run_code (b := impl_VarText.m) h.1 ⟨n + 1, ?_⟩
  by_cases hm : n ≤ 1000000000
  rotate_left
  · have hm' : ¬ (n : Int) ≤ 1000000000 := by omega
    simp [hm'] at hw
    simp [exB, impl_VarText.m, impl_VarText.b, List.range_succ, hw, hm]
  have hm' : (n : Int) ≤ 1000000000 := by omega
  simp [hm'] at hw
  obtain ⟨g, hr⟩ := loop_all (f := exC (run M) (n + 1) impl_VarText.l0) (spV 8 4 10) vInv (fun s => s.1) (fun s => (s.2 ++ (varP s.1).1, (varP s.1).2))
    (fun q (m : Nat × Nat) => (.exit 0, { t := [(0, .c (I q.2)), (4, .c (.row 8 m.1 0 q.1.length)), (10, .c (.bool false))], o := [(8, ⟨m.1, 1, true, false, brow q.1⟩)], n := m.2 }))
    (by
      rintro ⟨i, acc⟩ ⟨v, x⟩ hi
      by_cases hc : i > 127
      · left
        have hb := hi.1
        obtain ⟨k, hk1, hk2⟩ := hi.2
        simp only at hb hk1 hk2
        have e1 := or_and i (by omega)
        have e2 : (i : Int).fdiv 128 = ((i / 128 : Nat) : Int) := by
          rw [Int.fdiv_eq_ediv_of_nonneg _ (by omega)]; omega
        have e3 : IntKind.u8.wrap ((i % 128 + 128 : Nat) : Int) = ((UInt8.ofNat (i % 128 + 128)).toNat : Int) := by rw [ofNat_toNat, wrap_u8]
        have hc' : (127 : Int) < i := by omega
        have e4 : acc.length + 1 ≤ 4294967296 := by omega
        generalize hb : UInt8.ofNat (i % 128 + 128) = b at e3
        obtain ⟨y, hy⟩ : ∃ y, exC (run M) (n + 1) impl_VarText.l0 (spV 8 4 10 (i, acc) (v, x)) = some (.normal, spV 8 4 10 (i / 128, acc ++ [b]) y) := by
          simp only [Prod.exists]
          simp only [spV, impl_VarText.l0]
          simp only [Int.natCast_add, Int.natCast_emod, Int.cast_ofNat_Int] at e1 e3
          simp [hc', e1, e2, e3, e4, brow1, List.take_of_length_le, IntKind.bits]
        refine ⟨(i / 128, acc ++ [b]), y, hy, vInv_step hi hc b, by simp only; omega, ?_⟩
        simp only [varP_high hc, hb, List.append_assoc, List.cons_append, List.nil_append]
      · right
        have hc' : ¬ (127 : Int) < i := by omega
        refine ⟨(v, x + 32), ?_, by simp⟩
        simp only [varP_low hc, List.append_nil]
        simp [spV, impl_VarText.l0, hc'])
    (n + 1) (n, []) ⟨hn, 9, by simp only; omega, by simp⟩ (by simp)
  have hl := varP_len 9 n (by omega)
  have e3 : IntKind.u8.wrap ((varP n).2 : Int) = ((UInt8.ofNat (varP n).2).toNat : Int) := by rw [ofNat_toNat, wrap_u8]
  have e4 : (varP n).1.length + 1 ≤ 4294967296 := by omega
  simp only [List.nil_append] at hr
  simp [spV, -List.nil_append] at hr
  generalize hb : UInt8.ofNat (varP n).2 = b at e3
  have hv : varT n = (varP n).1 ++ [b] := by rw [← hb]; rfl
  rw [hv]
  simp [exB, impl_VarText.m, impl_VarText.b, List.range_succ, hr, hw, hm, e3, e4, brow1, List.take_of_length_le]
/-- its length, and it -/
def shortT (l : List UInt8) : List UInt8 := varT l.length ++ l
theorem impl_ShortText.says (h : impl_ShortText.k M) (l : List UInt8) (hl : l.length ≤ 4611686018427387904) : run M 205 [.c (S l)] [] = some (.tup [.c (S (if 20000 < l.length then [] else shortT l)), .c (.bool (!decide (20000 < l.length)))], []) := by
  have h1 := impl_VarText.says h.2 l.length (by omega)
  refine run_code (b := impl_ShortText.m) h.1 ⟨0, ?_⟩
  by_cases c : 20000 < l.length
  · have c' : 20000 < (l.length : Int) := by omega
    simp [exB, impl_ShortText.m, impl_ShortText.b, List.range_succ, c, c']
  · have c' : ¬ 20000 < (l.length : Int) := by omega
    have c2 : l.length ≤ 1000000000 := by omega
    have hv := varT_len (n := l.length) (by omega)
    simp only [c2, if_true, decide_true] at h1
    simp (disch := (first | omega | (simp; done) | (simp; omega))) [exB, impl_ShortText.m, impl_ShortText.b, List.range_succ, c, c', h1, shortT, str_add]
theorem impl_short.says (h : impl_short.k M) (l : List UInt8) (hl : l.length ≤ 20000) : run M 102 [.c (S l)] [] = some (.c (S (shortT l)), []) := by
  have h1 := impl_ShortText.says h.2 l (by omega)
  have c : ¬ 20000 < l.length := by omega
  refine run_code (b := impl_short.m) h.1 ⟨0, ?_⟩
  simp only [c, if_false] at h1
  simp [exB, impl_short.m, impl_short.b, List.range_succ, h1]
end Mx

namespace Mx
open Go
variable {M : Nat → Option Body}
structure Reg where
  val : Int
  time : Int
  who : Int
structure Mail where
  gid : Int
  uid : Int
  flags : List Reg
  text : List UInt8
structure Box where
  gid : Int
  name : List UInt8
  time : Int
  who : Int
  next : Int
  mails : List Mail
  gone : List Int
abbrev encReg (r : Reg) : List T := [I r.val, I r.time, I r.who]
abbrev regs (l : List Reg) : T := .sl false 3 (l.map encReg)
abbrev encMail (m : Mail) : List T := [I m.gid, I m.uid, regs m.flags, S m.text]
abbrev mails (l : List Mail) : T := .sl false 4 (l.map encMail)
abbrev encBox (b : Box) : List T := [I b.gid, S b.name, I b.time, I b.who, I b.next, mails b.mails, ints b.gone]
/-- as their own -/
abbrev encMailO (m : Mail) : List T := [I m.gid, I m.uid, .sl true 3 (m.flags.map encReg), S m.text]
abbrev encBoxO (b : Box) : List T := [I b.gid, S b.name, I b.time, I b.who, I b.next, .sl true 4 (b.mails.map encMail), .sl true 1 (irow b.gone)]
theorem has_int {k : IntKind} {u : T} (h : Has (.int k) u) : ∃ n, u = .int k n := by cases h; exact ⟨_, rfl⟩
end Mx

namespace Mx
open Go
variable {M : Nat → Option Body}
/-- the first mail of this number, from a place on -/
def atO (l : List Mail) (g : Int) : Nat → Nat → Option Nat
  | 0, _ => none
  | d + 1, i => if h : i < l.length then (if l[i].gid = g then some i else atO l g d (i + 1)) else none
def mailO (l : List Mail) (g : Int) : Option Nat := atO l g l.length 0
def intO : Option Nat → Int
  | some i => i
  | none => -1
theorem atO_lt (l : List Mail) (g : Int) : ∀ d i k, atO l g d i = some k → k < l.length
  | 0, i, k, h => by simp [atO] at h
  | d + 1, i, k, h => by
    rw [atO] at h
    by_cases hl : i < l.length
    · rw [dif_pos hl] at h
      split at h
      · cases h; exact hl
      · exact atO_lt l g d (i + 1) k h
    · rw [dif_neg hl] at h; cases h
def atFin (q : Option Nat) (m : St) : Out × St := match q with
  | some i => (.ret, { t := [(4, .c (I i))], o := [], n := m.n })
  | none => (.exit 0, m)
theorem atFin_ne (q : Option Nat) (m : St) : (atFin q m).1 ≠ .normal := by cases q <;> simp [atFin]
/-- the loop of either -/
theorem at_loop {f : St → Option (Out × St)} {β : Type} (l : List Mail) (g : Int) (S : Nat → β → St)
    (h1 : ∀ i (h : i < l.length) x, l[i].gid = g → ∃ m, f (S i x) = some (atFin (some i) m)) (h2 : ∀ i (h : i < l.length) x, ¬ l[i].gid = g → ∃ y, f (S i x) = some (.normal, S (i + 1) y))
    (h3 : ∀ x, ∃ m, f (S l.length x) = some (atFin none m)) : ∃ g' : β → St, ∀ x, loopN f (l.length + 1) (S 0 x) = some (atFin (mailO l g) (g' x)) := by
  refine loop_all (f := f) S (fun i => i ≤ l.length) (fun i => l.length - i) (fun i => atO l g (l.length - i) i) atFin ?_ (l.length + 1) 0 (Nat.zero_le _) (by omega)
  intro i x hi
  by_cases hlt : i < l.length
  · have hd : l.length - i = (l.length - (i + 1)) + 1 := by omega
    have hg : atO l g (l.length - i) i = if l[i].gid = g then some i else atO l g (l.length - (i + 1)) (i + 1) := by rw [hd, atO, dif_pos hlt]
    simp only [hg]
    by_cases c : l[i].gid = g
    · right
      obtain ⟨m, hm⟩ := h1 i hlt x c
      rw [if_pos c]
      exact ⟨m, hm, atFin_ne _ _⟩
    · left
      obtain ⟨y, hy⟩ := h2 i hlt x c
      rw [if_neg c]
      exact ⟨i + 1, y, hy, hlt, by omega, rfl⟩
  · have : i = l.length := by omega
    subst this
    right
    obtain ⟨m, hm⟩ := h3 x
    simp only [Nat.sub_self, atO]
    exact ⟨m, hm, atFin_ne _ _⟩
def spAtS (b : Box) (g : Int) (i : Nat) (x : Nat × Nat) : St := { t := [(1, .c (I g)), (2, .c (.ptr 2 x.1 0 0)), (5, .c (I i))], o := [(2, ⟨x.1, 7, true, true, [encBox b]⟩)], n := x.2 }
theorem spec_MailAt.says (h : spec_MailAt.k M) (b : Box) (g : Int) (hb : b.mails.length ≤ 1048576) : run M 91 [.a (encBox b), .c (I g)] [] = some (.c (I (intO (mailO b.mails g))), []) := by
  refine run_code (b := spec_MailAt.m) h ⟨b.mails.length + 1, ?_⟩
  obtain ⟨g', hr⟩ := at_loop (f := exC (run M) (b.mails.length + 1) spec_MailAt.l0) b.mails g (spAtS b g)
    (fun i hi x c => by
      obtain ⟨v, x⟩ := x
      simp [spAtS, spec_MailAt.l0, hi, c, encMail, atFin]
      exact ⟨⟨[], [], _⟩, rfl⟩)
    (fun i hi x c => by
      obtain ⟨v, x⟩ := x
      have e5 := wrap1 (i := i) (by omega)
      simp only [Prod.exists]
      simp [spAtS, spec_MailAt.l0, hi, c, encMail, e5])
    (fun x => by
      obtain ⟨v, x⟩ := x
      simp [spAtS, spec_MailAt.l0, atFin])
  cases hm : mailO b.mails g with
  | none =>
    simp [spAtS, hm, atFin] at hr
    simp [exB, spec_MailAt.m, spec_MailAt.b, List.range_succ, hr, intO]
  | some k =>
    simp [spAtS, hm, atFin] at hr
    simp [exB, spec_MailAt.m, spec_MailAt.b, List.range_succ, hr, intO]
theorem impl_MailAt_1.says (h : impl_MailAt_1.k M) (m : Mail) (g : Int) : run M 160 [.a (encMail m), .c (.vp [I g] 0)] [] = some (.c (.bool (decide (m.gid = g))), []) := by
  refine run_code (b := impl_MailAt_1.m) h ⟨0, ?_⟩
  simp [exB, impl_MailAt_1.m, impl_MailAt_1.b, List.range_succ]
def ixS (l : List Mail) (g : Int) (i : Nat) (x : Nat) : St := { t := [(0, .c (mails l)), (1, .c (.fn 160 [.vp [I g] 0])), (7, .c (I l.length)), (8, .c (I i))], o := [], n := x }
theorem slices_IndexFunc_impl_Mail_impl_Mail.says (h : slices_IndexFunc_impl_Mail_impl_Mail.k M) (h2 : impl_MailAt_1.k M) (l : List Mail) (g : Int) (hl : l.length ≤ 1048576) :
    run M 161 [.c (mails l), .c (.fn 160 [.vp [I g] 0])] [] = some (.c (I (intO (mailO l g))), []) := by
  refine run_code (b := slices_IndexFunc_impl_Mail_impl_Mail.m) h ⟨l.length + 1, ?_⟩
  obtain ⟨g', hr⟩ := at_loop (f := exC (run M) (l.length + 1) slices_IndexFunc_impl_Mail_impl_Mail.l0) l g (ixS l g)
    (fun i hi x c => by
      have hm := impl_MailAt_1.says h2 l[i] g
      rw [decide_eq_true c] at hm
      simp [ixS, slices_IndexFunc_impl_Mail_impl_Mail.l0, hi, hm, encMail, atFin]
      exact ⟨⟨[], [], _⟩, rfl⟩)
    (fun i hi x c => by
      have hm := impl_MailAt_1.says h2 l[i] g
      rw [decide_eq_false c] at hm
      have e5 := wrap1 (i := i) (by omega)
      simp [ixS, slices_IndexFunc_impl_Mail_impl_Mail.l0, hi, hm, encMail, e5])
    (fun x => by simp [ixS, slices_IndexFunc_impl_Mail_impl_Mail.l0, atFin])
  cases hm : mailO l g with
  | none =>
    simp [ixS, hm, atFin] at hr
    simp [exB, slices_IndexFunc_impl_Mail_impl_Mail.m, slices_IndexFunc_impl_Mail_impl_Mail.b, List.range_succ, hr, intO]
  | some k =>
    simp [ixS, hm, atFin] at hr
    simp [exB, slices_IndexFunc_impl_Mail_impl_Mail.m, slices_IndexFunc_impl_Mail_impl_Mail.b, List.range_succ, hr, intO]
theorem impl_MailAt.says (h : impl_MailAt.k M) (b : Box) (g : Int) (hb : b.mails.length ≤ 1048576) : run M 72 [.a (encBox b), .c (I g)] [] = some (.c (I (intO (mailO b.mails g))), []) := by
  have h1 := slices_IndexFunc_impl_Mail_impl_Mail.says h.2.2 h.2.1 b.mails g hb
  refine run_code (b := impl_MailAt.m) h.1 ⟨0, ?_⟩
  simp [exB, impl_MailAt.m, impl_MailAt.b, List.range_succ, h1]
def holds (b : Box) (g : Int) : Bool := decide (0 ≤ intO (mailO b.mails g))
end Mx

namespace Mx
open Go
/-- the first place from i on, of the d places there, of which p says yes -/
def firstF (p : Nat → Bool) : Nat → Nat → Option Nat
  | 0, _ => none
  | d + 1, i => if p i = true then some i else firstF p d (i + 1)
def firstN (p : Nat → Bool) (n : Nat) : Option Nat := firstF p n 0
theorem firstF_none (p : Nat → Bool) : ∀ d i, firstF p d i = none → ∀ j, i ≤ j → j < i + d → p j = false
  | 0, i, _, j, h1, h2 => by omega
  | d + 1, i, h, j, h1, h2 => by
    rw [firstF] at h
    split at h
    · cases h
    · by_cases e : j = i
      · subst e; simpa using ‹¬p j = true›
      · exact firstF_none p d (i + 1) h j (by omega) (by omega)
theorem firstF_some (p : Nat → Bool) : ∀ d i k, firstF p d i = some k → i ≤ k ∧ k < i + d ∧ p k = true ∧ ∀ j, i ≤ j → j < k → p j = false
  | d + 1, i, k, h => by
    rw [firstF] at h
    split at h
    · cases h
      exact ⟨by omega, by omega, ‹_›, fun j h1 h2 => by omega⟩
    · obtain ⟨h1, h2, h3, h4⟩ := firstF_some p d (i + 1) k h
      refine ⟨by omega, by omega, h3, fun j h5 h6 => ?_⟩
      by_cases e : j = i
      · subst e; simpa using ‹¬p j = true›
      · exact h4 j (by omega) h6
theorem firstN_none {p : Nat → Bool} {n : Nat} (h : firstN p n = none) : ∀ j, j < n → p j = false := fun j hj => firstF_none p n 0 h j (by omega) (by omega)
theorem firstN_some {p : Nat → Bool} {n k : Nat} (h : firstN p n = some k) : k < n ∧ p k = true ∧ ∀ j, j < k → p j = false := by
  obtain ⟨_, h2, h3, h4⟩ := firstF_some p n 0 k h
  exact ⟨by omega, h3, fun j hj => h4 j (by omega) hj⟩
theorem firstN_isNone {p : Nat → Bool} {n : Nat} : firstN p n = none ↔ ∀ j, j < n → p j = false := by
  refine ⟨firstN_none, fun h => ?_⟩
  cases q : firstN p n with
  | none => rfl
  | some k =>
    obtain ⟨h1, h2, _⟩ := firstN_some q
    rw [h k h1] at h2; cases h2
theorem first_loop {γ β : Type} (n : Nat) (p : Nat → Bool) {f : St → Option (Out × St)} (S : Nat → β → St) (fin : Option Nat → γ → Out × St) (hfin : ∀ q m, (fin q m).1 ≠ .normal)
    (h1 : ∀ i, i < n → ∀ x, p i = false → ∃ y, f (S i x) = some (.normal, S (i + 1) y)) (h2 : ∀ i, i < n → ∀ x, p i = true → ∃ m, f (S i x) = some (fin (some i) m))
    (h3 : ∀ x, ∃ m, f (S n x) = some (fin none m)) : ∃ g : β → γ, ∀ x, loopN f (n + 1) (S 0 x) = some (fin (firstN p n) (g x)) := by
  refine loop_all (f := f) S (fun i => i ≤ n) (fun i => n - i) (fun i => firstF p (n - i) i) fin ?_ (n + 1) 0 (Nat.zero_le _) (by omega)
  intro i x hi
  by_cases hlt : i < n
  · have hd : n - i = (n - (i + 1)) + 1 := by omega
    have hg : firstF p (n - i) i = if p i = true then some i else firstF p (n - (i + 1)) (i + 1) := by rw [hd, firstF]
    simp only [hg]
    by_cases c : p i = true
    · right
      obtain ⟨m, hm⟩ := h2 i hlt x c
      rw [if_pos c]
      exact ⟨m, hm, hfin _ _⟩
    · left
      obtain ⟨y, hy⟩ := h1 i hlt x (by simpa using c)
      rw [if_neg c]
      exact ⟨i + 1, y, hy, hlt, by omega, rfl⟩
  · have : i = n := by omega
    subst this
    right
    obtain ⟨m, hm⟩ := h3 x
    simp only [Nat.sub_self, firstF]
    exact ⟨m, hm, hfin _ _⟩
theorem loopN_le {f : St → Option (Out × St)} {n m : Nat} {s : St} {r : Out × St} (h : loopN f n s = some r) (hm : n ≤ m) : loopN f m s = some r := loopN_mono (fun _ _ h => h) hm h
/-- a loop that answers w at the first place found, and goes on behind itself if there is none -/
def fin1 {β : Type} (r : Nat) (w : T) (e : Nat) (E : β → St) (q : Option Nat) (m : β × Nat) : Out × St := match q with
  | none => (.exit e, E m.1)
  | some _ => (.ret, { t := [(r, .c w)], o := [], n := m.2 })
theorem early_loop {β : Type} (n : Nat) (p : Nat → Bool) {f : St → Option (Out × St)} (S : Nat → β → St) (r : Nat) (w : T) (e : Nat) (E : β → St)
    (h1 : ∀ i, i < n → ∀ x, p i = false → ∃ y, f (S i x) = some (.normal, S (i + 1) y)) (h2 : ∀ i, i < n → ∀ x, p i = true → ∃ k, f (S i x) = some (.ret, { t := [(r, .c w)], o := [], n := k }))
    (h3 : ∀ x, ∃ y, f (S n x) = some (.exit e, E y)) : ∃ g : β → β × Nat, ∀ x, loopN f (n + 1) (S 0 x) = some (fin1 r w e E (firstN p n) (g x)) :=
  first_loop n p S (fin1 r w e E) (fun q m => by cases q <;> simp [fin1]) h1 (fun i hi x c => by
    obtain ⟨k, hk⟩ := h2 i hi x c
    exact ⟨(x, k), hk⟩) (fun x => by
    obtain ⟨y, hy⟩ := h3 x
    exact ⟨(y, 0), hy⟩)
/-- a loop that goes through a whole list with what it has so far -/
theorem fold_loop {α σ β γ : Type} (l : List α) (step : σ → α → σ) (Inv : Nat → σ → Prop) {f : St → Option (Out × St)} (S : Nat → σ → β → St) (e : Nat) (E : σ → γ → St)
    (hI : ∀ i (h : i < l.length) s, Inv i s → Inv (i + 1) (step s l[i]))
    (h1 : ∀ i (h : i < l.length) s x, Inv i s → ∃ y, f (S i s x) = some (.normal, S (i + 1) (step s l[i]) y))
    (h3 : ∀ s x, Inv l.length s → ∃ y, f (S l.length s x) = some (.exit e, E s y)) (s : σ) (h0 : Inv 0 s) :
    ∃ g : β → γ, ∀ x, loopN f (l.length + 1) (S 0 s x) = some (.exit e, E (l.foldl step s) (g x)) := by
  refine loop_all (f := f) (fun p : Nat × σ => S p.1 p.2) (fun p => p.1 ≤ l.length ∧ Inv p.1 p.2) (fun p => l.length - p.1) (fun p => (l.drop p.1).foldl step p.2) (fun q m => (.exit e, E q m)) ?_ (l.length + 1) (0, s) ⟨Nat.zero_le _, h0⟩ (by simp)
  rintro ⟨i, s⟩ x ⟨hi, hs⟩
  simp only at hi hs
  by_cases hlt : i < l.length
  · left
    obtain ⟨y, hy⟩ := h1 i hlt s x hs
    refine ⟨(i + 1, step s l[i]), y, hy, ⟨hlt, hI i hlt s hs⟩, by simp only; omega, ?_⟩
    simp only
    rw [List.drop_eq_getElem_cons hlt, List.foldl_cons]
  · have : i = l.length := by omega
    subst this
    right
    obtain ⟨y, hy⟩ := h3 s x hs
    exact ⟨y, by simp [hy], by simp⟩
/-- texts one behind the other -/
def texts {α : Type} (t : α → List UInt8) (l : List α) : List UInt8 := l.flatMap t
theorem texts_fold {α : Type} (t : α → List UInt8) (l : List α) (s : List UInt8) : l.foldl (fun s x => s ++ t x) s = s ++ texts t l := by
  induction l generalizing s with
  | nil => simp [texts]
  | cons x l ih => simp [ih, texts, List.flatMap_cons]
theorem texts_len {α : Type} (t : α → List UInt8) (l : List α) (c : Nat) (h : ∀ x ∈ l, (t x).length ≤ c) : (texts t l).length ≤ l.length * c := by
  induction l with
  | nil => simp [texts]
  | cons x l ih =>
    have h1 := ih fun y hy => h y (List.mem_cons_of_mem _ hy)
    have h2 := h x (List.mem_cons_self ..)
    simp only [texts, List.flatMap_cons, List.length_append, List.length_cons] at h1 ⊢
    have : (l.length + 1) * c = l.length * c + c := Nat.succ_mul _ _
    omega
/-- a loop that puts texts behind a text -/
theorem text_loop {α β γ : Type} (l : List α) (t : α → List UInt8) (c a : Nat) (hc : ∀ x ∈ l, (t x).length ≤ c) {f : St → Option (Out × St)} (S : Nat → List UInt8 → β → St) (e : Nat) (E : List UInt8 → γ → St)
    (h1 : ∀ i (h : i < l.length) s x, s.length ≤ a + i * c → ∃ y, f (S i s x) = some (.normal, S (i + 1) (s ++ t l[i]) y))
    (h3 : ∀ s x, ∃ y, f (S l.length s x) = some (.exit e, E s y)) (s : List UInt8) (h0 : s.length ≤ a) :
    ∃ g : β → γ, ∀ x, loopN f (l.length + 1) (S 0 s x) = some (.exit e, E (s ++ texts t l) (g x)) := by
  have := fold_loop l (fun s x => s ++ t x) (fun i s => s.length ≤ a + i * c) S e E (fun i h s hs => by
    have h2 := hc _ (List.getElem_mem h)
    have : (i + 1) * c = i * c + c := Nat.succ_mul _ _
    simp only [List.length_append]; omega) h1 (fun s x _ => h3 s x) s (by simpa using h0)
  simpa only [texts_fold] using this
end Mx

namespace Mx
open Go
variable {M : Nat → Option Body}
def inR (a n b : Int) : Bool := decide (a ≤ n) && decide (n ≤ b)
theorem impl_within.inR (h : impl_within.k M) (n a b : Int) : run M 101 [.c (I n), .c (I a), .c (I b)] [] = some (.c (.bool (inR a n b)), []) := impl_within.says h n a b
theorem spec_l01In.inR (h : spec_l01In.k M) (n a b : Int) : run M 98 [.c (I n), .c (I a), .c (I b)] [] = some (.c (.bool (inR a n b)), []) := spec_l01In.says h n a b
def stampOk (t w : Int) : Bool := inR 0 t 100000 && inR 0 w 2
theorem impl_StampOk.says (h : impl_StampOk.k M) (t w : Int) : run M 164 [.a [I t, I w]] [] = some (.c (.bool (stampOk t w)), []) := by
  have h1 := impl_within.inR h.2 t 0 100000
  have h2 := impl_within.inR h.2 w 0 2
  refine run_code (b := impl_StampOk.m) h.1 ⟨0, ?_⟩
  cases c : inR 0 t 100000 <;> simp (maxSteps := 1000000) (disch := (first | omega | (simp; done) | (simp; omega))) [exB, impl_StampOk.m, impl_StampOk.b, List.range_succ, bs_get, List.take_of_length_le, setAt, str_add, h1, h2, c, stampOk]
theorem spec_StampOk.says (h : spec_StampOk.k M) (t w : Int) : run M 183 [.a [I t, I w]] [] = some (.c (.bool (stampOk t w)), []) := by
  have h1 := spec_l01In.inR h.2 t 0 100000
  have h2 := spec_l01In.inR h.2 w 0 2
  refine run_code (b := spec_StampOk.m) h.1 ⟨0, ?_⟩
  cases c : inR 0 t 100000 <;> simp (maxSteps := 1000000) (disch := (first | omega | (simp; done) | (simp; omega))) [exB, spec_StampOk.m, spec_StampOk.b, List.range_succ, bs_get, List.take_of_length_le, setAt, str_add, h1, h2, c, stampOk]
def regOk (r : Reg) : Bool := stampOk r.time r.who && inR 0 r.val 1000000000
theorem impl_RegOk.says (h : impl_RegOk.k M) (r : Reg) : run M 272 [.a (encReg r)] [] = some (.c (.bool (regOk r)), []) := by
  have h1 := impl_StampOk.says h.2.2 r.time r.who
  have h2 := impl_within.inR h.2.1 r.val 0 1000000000
  refine run_code (b := impl_RegOk.m) h.1 ⟨0, ?_⟩
  cases c : stampOk r.time r.who <;> simp (maxSteps := 1000000) (disch := (first | omega | (simp; done) | (simp; omega))) [exB, impl_RegOk.m, impl_RegOk.b, List.range_succ, bs_get, List.take_of_length_le, setAt, str_add, h1, h2, c, regOk]
theorem spec_RegOk.says (h : spec_RegOk.k M) (r : Reg) : run M 276 [.a (encReg r)] [] = some (.c (.bool (regOk r)), []) := by
  have h1 := spec_StampOk.says h.2.2 r.time r.who
  have h2 := spec_l01In.inR h.2.1 r.val 0 1000000000
  refine run_code (b := spec_RegOk.m) h.1 ⟨0, ?_⟩
  cases c : stampOk r.time r.who <;> simp (maxSteps := 1000000) (disch := (first | omega | (simp; done) | (simp; omega))) [exB, spec_RegOk.m, spec_RegOk.b, List.range_succ, bs_get, List.take_of_length_le, setAt, str_add, h1, h2, c, regOk]
def badFlag (l : List Reg) (i : Nat) : Bool := match l[i]? with
  | some r => !regOk r || decide (1 < r.val)
  | none => false
def flagsOk (l : List Reg) : Bool := (firstN (badFlag l) l.length).isNone && decide (l.length = 3)
theorem badFlag_at {l : List Reg} {i : Nat} (h : i < l.length) : badFlag l i = (!regOk l[i] || decide (1 < l[i].val)) := by simp [badFlag, h]
def ifS (l : List Reg) (i : Nat) (x : Nat) : St := { t := [(0, .c (regs l)), (5, .c (regs l)), (6, .c (I l.length)), (7, .c (I i))], o := [], n := x }
def ifE (l : List Reg) (x : Nat) : St := { t := [(0, .c (regs l)), (5, .c (regs l)), (6, .c (I l.length)), (7, .c (I l.length)), (8, .c (.bool false))], o := [], n := x }
theorem impl_FlagsOk.says (h : impl_FlagsOk.k M) (l : List Reg) (hl : l.length ≤ 1048576) : run M 235 [.c (regs l)] [] = some (.c (.bool (flagsOk l)), []) := by
  refine run_code (b := impl_FlagsOk.m) h.1 ⟨l.length + 1, ?_⟩
  obtain ⟨g, hr⟩ := early_loop (f := exC (run M) (l.length + 1) impl_FlagsOk.l0) l.length (badFlag l) (ifS l) 2 (.bool false) 0 (ifE l)
    (fun i hi x c => by
      have e5 := wrap1 (i := i) (by omega)
      have hm := impl_RegOk.says h.2 l[i]
      rw [badFlag_at hi] at c
      simp at c
      simp only [encReg, c.1] at hm
      have c2 : ¬ (1 : Int) < l[i].val := by omega
      simp (maxSteps := 1000000) (disch := (first | omega | (simp; done) | (simp; omega))) [impl_FlagsOk.l0, List.range_succ, bs_get, List.take_of_length_le, setAt, str_add, ifS, hi, hm, encReg, c, c2, e5])
    (fun i hi x c => by
      have hm := impl_RegOk.says h.2 l[i]
      rw [badFlag_at hi] at c
      cases c1 : regOk l[i]
      · simp only [encReg, c1] at hm
        simp (maxSteps := 1000000) (disch := (first | omega | (simp; done) | (simp; omega))) [impl_FlagsOk.l0, List.range_succ, bs_get, List.take_of_length_le, setAt, str_add, ifS, hi, hm, encReg, c1]
      · simp [c1] at c
        simp only [encReg, c1] at hm
        simp (maxSteps := 1000000) (disch := (first | omega | (simp; done) | (simp; omega))) [impl_FlagsOk.l0, List.range_succ, bs_get, List.take_of_length_le, setAt, str_add, ifS, hi, hm, encReg, c1, c])
    (fun x => by simp (maxSteps := 1000000) (disch := (first | omega | (simp; done) | (simp; omega))) [impl_FlagsOk.l0, List.range_succ, bs_get, List.take_of_length_le, setAt, str_add, ifS, ifE])
  cases q : firstN (badFlag l) l.length with
  | none =>
    simp [ifS, ifE, q, fin1] at hr
    simp (maxSteps := 1000000) (disch := (first | omega | (simp; done) | (simp; omega))) [exB, impl_FlagsOk.m, impl_FlagsOk.b, List.range_succ, bs_get, List.take_of_length_le, setAt, str_add, hr, flagsOk, q]
    omega
  | some k =>
    simp [ifS, q, fin1] at hr
    simp (maxSteps := 1000000) (disch := (first | omega | (simp; done) | (simp; omega))) [exB, impl_FlagsOk.m, impl_FlagsOk.b, List.range_succ, bs_get, List.take_of_length_le, setAt, str_add, hr, flagsOk, q]
def sfS (l : List Reg) (i : Nat) (x : Nat) : St := { t := [(0, .c (regs l)), (3, .c (I i))], o := [], n := x }
def sfE (l : List Reg) (x : Nat) : St := { t := [(0, .c (regs l)), (3, .c (I l.length)), (7, .c (.bool false))], o := [], n := x }
theorem spec_FlagsOk.says (h : spec_FlagsOk.k M) (l : List Reg) (hl : l.length ≤ 1048576) : run M 242 [.c (regs l)] [] = some (.c (.bool (flagsOk l)), []) := by
  refine run_code (b := spec_FlagsOk.m) h.1 ⟨l.length + 1, ?_⟩
  obtain ⟨g, hr⟩ := early_loop (f := exC (run M) (l.length + 1) spec_FlagsOk.l0) l.length (badFlag l) (sfS l) 2 (.bool false) 0 (sfE l)
    (fun i hi x c => by
      have e5 := wrap1 (i := i) (by omega)
      have hm := spec_RegOk.says h.2 l[i]
      rw [badFlag_at hi] at c
      simp at c
      simp only [encReg, c.1] at hm
      have c2 : ¬ (1 : Int) < l[i].val := by omega
      simp (maxSteps := 1000000) (disch := (first | omega | (simp; done) | (simp; omega))) [spec_FlagsOk.l0, List.range_succ, bs_get, List.take_of_length_le, setAt, str_add, sfS, hi, hm, encReg, c, c2, e5])
    (fun i hi x c => by
      have hm := spec_RegOk.says h.2 l[i]
      rw [badFlag_at hi] at c
      cases c1 : regOk l[i]
      · simp only [encReg, c1] at hm
        simp (maxSteps := 1000000) (disch := (first | omega | (simp; done) | (simp; omega))) [spec_FlagsOk.l0, List.range_succ, bs_get, List.take_of_length_le, setAt, str_add, sfS, hi, hm, encReg, c1]
      · simp [c1] at c
        simp only [encReg, c1] at hm
        simp (maxSteps := 1000000) (disch := (first | omega | (simp; done) | (simp; omega))) [spec_FlagsOk.l0, List.range_succ, bs_get, List.take_of_length_le, setAt, str_add, sfS, hi, hm, encReg, c1, c])
    (fun x => by simp (maxSteps := 1000000) (disch := (first | omega | (simp; done) | (simp; omega))) [spec_FlagsOk.l0, List.range_succ, bs_get, List.take_of_length_le, setAt, str_add, sfS, sfE])
  cases q : firstN (badFlag l) l.length with
  | none =>
    simp [sfS, sfE, q, fin1] at hr
    simp (maxSteps := 1000000) (disch := (first | omega | (simp; done) | (simp; omega))) [exB, spec_FlagsOk.m, spec_FlagsOk.b, List.range_succ, bs_get, List.take_of_length_le, setAt, str_add, hr, flagsOk, q]
    omega
  | some k =>
    simp [sfS, q, fin1] at hr
    simp (maxSteps := 1000000) (disch := (first | omega | (simp; done) | (simp; omega))) [exB, spec_FlagsOk.m, spec_FlagsOk.b, List.range_succ, bs_get, List.take_of_length_le, setAt, str_add, hr, flagsOk, q]
theorem impl_isGid.says (h : impl_isGid.k M) (n : Int) : run M 147 [.c (I n)] [] = some (.c (.bool (inR 1 n 9999)), []) := by
  have h1 := impl_within.inR h.2 n 1 9999
  refine run_code (b := impl_isGid.m) h.1 ⟨0, ?_⟩
  simp (maxSteps := 1000000) (disch := (first | omega | (simp; done) | (simp; omega))) [exB, impl_isGid.m, impl_isGid.b, List.range_succ, bs_get, List.take_of_length_le, setAt, str_add, h1]
def mailOk (m : Mail) : Bool := inR 1 m.gid 9999 && inR 1 m.uid 9999 && flagsOk m.flags && decide (m.text.length ≤ 60)
theorem impl_MailOk.says (h : impl_MailOk.k M) (m : Mail) (hl : m.flags.length ≤ 1048576) : run M 166 [.a (encMail m)] [] = some (.c (.bool (mailOk m)), []) := by
  have h1 := impl_isGid.says h.2.1 m.gid
  have h2 := impl_isGid.says h.2.1 m.uid
  have h3 := impl_FlagsOk.says h.2.2 m.flags hl
  refine run_code (b := impl_MailOk.m) h.1 ⟨0, ?_⟩
  cases c1 : inR 1 m.gid 9999
  · simp (maxSteps := 1000000) (disch := (first | omega | (simp; done) | (simp; omega))) [exB, impl_MailOk.m, impl_MailOk.b, List.range_succ, bs_get, List.take_of_length_le, setAt, str_add, h1, c1, mailOk]
  cases c2 : inR 1 m.uid 9999
  · simp (maxSteps := 1000000) (disch := (first | omega | (simp; done) | (simp; omega))) [exB, impl_MailOk.m, impl_MailOk.b, List.range_succ, bs_get, List.take_of_length_le, setAt, str_add, h1, h2, c1, c2, mailOk]
  cases c3 : flagsOk m.flags
  · simp (maxSteps := 1000000) (disch := (first | omega | (simp; done) | (simp; omega))) [exB, impl_MailOk.m, impl_MailOk.b, List.range_succ, bs_get, List.take_of_length_le, setAt, str_add, h1, h2, h3, c1, c2, c3, mailOk]
  simp (maxSteps := 1000000) (disch := (first | omega | (simp; done) | (simp; omega))) [exB, impl_MailOk.m, impl_MailOk.b, List.range_succ, bs_get, List.take_of_length_le, setAt, str_add, h1, h2, h3, c1, c2, c3, mailOk]
  omega
theorem spec_MailOk.says (h : spec_MailOk.k M) (m : Mail) (hl : m.flags.length ≤ 1048576) : run M 187 [.a (encMail m)] [] = some (.c (.bool (mailOk m)), []) := by
  have h1 := spec_l01In.inR h.2.1 m.gid 1 9999
  have h2 := spec_l01In.inR h.2.1 m.uid 1 9999
  have h3 := spec_FlagsOk.says h.2.2 m.flags hl
  refine run_code (b := spec_MailOk.m) h.1 ⟨0, ?_⟩
  cases c1 : inR 1 m.gid 9999
  · simp (maxSteps := 1000000) (disch := (first | omega | (simp; done) | (simp; omega))) [exB, spec_MailOk.m, spec_MailOk.b, List.range_succ, bs_get, List.take_of_length_le, setAt, str_add, h1, c1, mailOk]
  cases c2 : inR 1 m.uid 9999
  · simp (maxSteps := 1000000) (disch := (first | omega | (simp; done) | (simp; omega))) [exB, spec_MailOk.m, spec_MailOk.b, List.range_succ, bs_get, List.take_of_length_le, setAt, str_add, h1, h2, c1, c2, mailOk]
  cases c3 : flagsOk m.flags
  · simp (maxSteps := 1000000) (disch := (first | omega | (simp; done) | (simp; omega))) [exB, spec_MailOk.m, spec_MailOk.b, List.range_succ, bs_get, List.take_of_length_le, setAt, str_add, h1, h2, h3, c1, c2, c3, mailOk]
  simp (maxSteps := 1000000) (disch := (first | omega | (simp; done) | (simp; omega))) [exB, spec_MailOk.m, spec_MailOk.b, List.range_succ, bs_get, List.take_of_length_le, setAt, str_add, h1, h2, h3, c1, c2, c3, mailOk]
  omega
def badSign (l : List UInt8) (i : Nat) : Bool := match l[i]? with
  | some b => (decide ((b.toNat : Int) < 97) || decide (122 < (b.toNat : Int))) && (decide ((b.toNat : Int) < 48) || decide (57 < (b.toNat : Int)))
  | none => false
theorem badSign_at {l : List UInt8} {i : Nat} (h : i < l.length) :
    badSign l i = ((decide ((l[i].toNat : Int) < 97) || decide (122 < (l[i].toNat : Int))) && (decide ((l[i].toNat : Int) < 48) || decide (57 < (l[i].toNat : Int)))) := by simp [badSign, h]
def nameOk (l : List UInt8) : Bool := (firstN (badSign l) l.length).isNone && inR 1 l.length 12
def inSS (l : List UInt8) (i : Nat) (x : Nat) : St := { t := [(0, .c (S l)), (3, .c (I i))], o := [], n := x }
def inSE (l : List UInt8) (x : Nat) : St := { t := [(0, .c (S l)), (3, .c (I l.length)), (7, .c (.bool false))], o := [], n := x }
theorem impl_NameOk.says (h : impl_NameOk.k M) (l : List UInt8) (hl : l.length ≤ 4611686018427387904) : run M 89 [.c (S l)] [] = some (.c (.bool (nameOk l)), []) := by
  have h1 := impl_within.inR h.2 l.length 1 12
  refine run_code (b := impl_NameOk.m) h.1 ⟨l.length + 1, ?_⟩
  obtain ⟨g, hr⟩ := early_loop (f := exC (run M) (l.length + 1) impl_NameOk.l0) l.length (badSign l) (inSS l) 2 (.bool false) 0 (inSE l)
    (fun i hi x c => by
      have e5 := wrap1 (i := i) (by omega)
      rw [badSign_at hi] at c
      generalize hb : ((l[i].toNat : Nat) : Int) = b at c
      by_cases c1 : b < 97
      · by_cases c2 : b < 48
        · simp [c1, c2] at c
        · by_cases c3 : 57 < b
          · simp [c1, c2, c3] at c
          · simp (maxSteps := 1000000) (disch := (first | omega | (simp; done) | (simp; omega))) [impl_NameOk.l0, List.range_succ, bs_get, List.take_of_length_le, setAt, str_add, inSS, hi, e5, hb, c1, c2, c3]
      · by_cases c4 : 122 < b
        · have c3 : 57 < b := by omega
          simp [c1, c4, c3] at c
        · simp (maxSteps := 1000000) (disch := (first | omega | (simp; done) | (simp; omega))) [impl_NameOk.l0, List.range_succ, bs_get, List.take_of_length_le, setAt, str_add, inSS, hi, e5, hb, c1, c4])
    (fun i hi x c => by
      rw [badSign_at hi] at c
      generalize hb : ((l[i].toNat : Nat) : Int) = b at c
      by_cases c1 : b < 97
      · by_cases c2 : b < 48
        · simp (maxSteps := 1000000) (disch := (first | omega | (simp; done) | (simp; omega))) [impl_NameOk.l0, List.range_succ, bs_get, List.take_of_length_le, setAt, str_add, inSS, hi, hb, c1, c2]
        · by_cases c3 : 57 < b
          · simp (maxSteps := 1000000) (disch := (first | omega | (simp; done) | (simp; omega))) [impl_NameOk.l0, List.range_succ, bs_get, List.take_of_length_le, setAt, str_add, inSS, hi, hb, c1, c2, c3]
          · simp [c1, c2, c3] at c
      · by_cases c4 : 122 < b
        · have c2 : ¬ b < 48 := by omega
          have c3 : 57 < b := by omega
          simp (maxSteps := 1000000) (disch := (first | omega | (simp; done) | (simp; omega))) [impl_NameOk.l0, List.range_succ, bs_get, List.take_of_length_le, setAt, str_add, inSS, hi, hb, c1, c2, c3, c4]
        · simp [c1, c4] at c)
    (fun x => by simp (maxSteps := 1000000) (disch := (first | omega | (simp; done) | (simp; omega))) [impl_NameOk.l0, List.range_succ, bs_get, List.take_of_length_le, setAt, str_add, inSS, inSE])
  cases q : firstN (badSign l) l.length with
  | none =>
    simp [inSS, inSE, q, fin1] at hr
    simp (maxSteps := 1000000) (disch := (first | omega | (simp; done) | (simp; omega))) [exB, impl_NameOk.m, impl_NameOk.b, List.range_succ, bs_get, List.take_of_length_le, setAt, str_add, hr, nameOk, q, h1]
  | some k =>
    simp [inSS, q, fin1] at hr
    simp (maxSteps := 1000000) (disch := (first | omega | (simp; done) | (simp; omega))) [exB, impl_NameOk.m, impl_NameOk.b, List.range_succ, bs_get, List.take_of_length_le, setAt, str_add, hr, nameOk, q]
def snSS (l : List UInt8) (i : Nat) (x : Nat) : St := { t := [(0, .c (S l)), (3, .c (I i))], o := [], n := x }
def snSE (l : List UInt8) (x : Nat) : St := { t := [(0, .c (S l)), (3, .c (I l.length)), (7, .c (.bool false))], o := [], n := x }
theorem spec_NameOk.says (h : spec_NameOk.k M) (l : List UInt8) (hl : l.length ≤ 4611686018427387904) : run M 90 [.c (S l)] [] = some (.c (.bool (nameOk l)), []) := by
  have h1 := spec_l01In.inR h.2 l.length 1 12
  refine run_code (b := spec_NameOk.m) h.1 ⟨l.length + 1, ?_⟩
  obtain ⟨g, hr⟩ := early_loop (f := exC (run M) (l.length + 1) spec_NameOk.l0) l.length (badSign l) (snSS l) 2 (.bool false) 0 (snSE l)
    (fun i hi x c => by
      have e5 := wrap1 (i := i) (by omega)
      rw [badSign_at hi] at c
      generalize hb : ((l[i].toNat : Nat) : Int) = b at c
      by_cases c1 : b < 97
      · by_cases c2 : b < 48
        · simp [c1, c2] at c
        · by_cases c3 : 57 < b
          · simp [c1, c2, c3] at c
          · simp (maxSteps := 1000000) (disch := (first | omega | (simp; done) | (simp; omega))) [spec_NameOk.l0, List.range_succ, bs_get, List.take_of_length_le, setAt, str_add, snSS, hi, e5, hb, c1, c2, c3]
      · by_cases c4 : 122 < b
        · have c3 : 57 < b := by omega
          simp [c1, c4, c3] at c
        · simp (maxSteps := 1000000) (disch := (first | omega | (simp; done) | (simp; omega))) [spec_NameOk.l0, List.range_succ, bs_get, List.take_of_length_le, setAt, str_add, snSS, hi, e5, hb, c1, c4])
    (fun i hi x c => by
      rw [badSign_at hi] at c
      generalize hb : ((l[i].toNat : Nat) : Int) = b at c
      by_cases c1 : b < 97
      · by_cases c2 : b < 48
        · simp (maxSteps := 1000000) (disch := (first | omega | (simp; done) | (simp; omega))) [spec_NameOk.l0, List.range_succ, bs_get, List.take_of_length_le, setAt, str_add, snSS, hi, hb, c1, c2]
        · by_cases c3 : 57 < b
          · simp (maxSteps := 1000000) (disch := (first | omega | (simp; done) | (simp; omega))) [spec_NameOk.l0, List.range_succ, bs_get, List.take_of_length_le, setAt, str_add, snSS, hi, hb, c1, c2, c3]
          · simp [c1, c2, c3] at c
      · by_cases c4 : 122 < b
        · have c2 : ¬ b < 48 := by omega
          have c3 : 57 < b := by omega
          simp (maxSteps := 1000000) (disch := (first | omega | (simp; done) | (simp; omega))) [spec_NameOk.l0, List.range_succ, bs_get, List.take_of_length_le, setAt, str_add, snSS, hi, hb, c1, c2, c3, c4]
        · simp [c1, c4] at c)
    (fun x => by simp (maxSteps := 1000000) (disch := (first | omega | (simp; done) | (simp; omega))) [spec_NameOk.l0, List.range_succ, bs_get, List.take_of_length_le, setAt, str_add, snSS, snSE])
  cases q : firstN (badSign l) l.length with
  | none =>
    simp [snSS, snSE, q, fin1] at hr
    simp (maxSteps := 1000000) (disch := (first | omega | (simp; done) | (simp; omega))) [exB, spec_NameOk.m, spec_NameOk.b, List.range_succ, bs_get, List.take_of_length_le, setAt, str_add, hr, nameOk, q, h1]
  | some k =>
    simp [snSS, q, fin1] at hr
    simp (maxSteps := 1000000) (disch := (first | omega | (simp; done) | (simp; omega))) [exB, spec_NameOk.m, spec_NameOk.b, List.range_succ, bs_get, List.take_of_length_le, setAt, str_add, hr, nameOk, q]
def badGid (l : List Int) (i : Nat) : Bool := match l[i]? with
  | some g => !inR 1 g 9999 || (decide (0 < i) && match l[i - 1]? with | some f => decide (g ≤ f) | none => false)
  | none => false
theorem badGid_at {l : List Int} {i : Nat} (h : i < l.length) : badGid l i = (!inR 1 l[i] 9999 || (decide (0 < i) && decide (l[i] ≤ l[i - 1]))) := by
  simp [badGid, h, (show i - 1 < l.length by omega)]
def gidsOk (l : List Int) (most : Int) : Bool := (firstN (badGid l) l.length).isNone && decide ((l.length : Int) ≤ most)
def agS (l : List Int) (most : Int) (i : Nat) (x : Nat) : St := { t := [(0, .c (ints l)), (1, .c (I most)), (7, .c (ints l)), (8, .c (I l.length)), (9, .c (I i))], o := [], n := x }
def agE (l : List Int) (most : Int) (x : Nat) : St := { t := [(0, .c (ints l)), (1, .c (I most)), (7, .c (ints l)), (8, .c (I l.length)), (9, .c (I l.length)), (10, .c (.bool false))], o := [], n := x }
theorem impl_areGids.says (h : impl_areGids.k M) (l : List Int) (most : Int) (hl : l.length ≤ 4611686018427387904) : run M 165 [.c (ints l), .c (I most)] [] = some (.c (.bool (gidsOk l most)), []) := by
  refine run_code (b := impl_areGids.m) h.1 ⟨l.length + 1, ?_⟩
  obtain ⟨g, hr⟩ := early_loop (f := exC (run M) (l.length + 1) impl_areGids.l0) l.length (badGid l) (agS l most) 4 (.bool false) 0 (agE l most)
    (fun i hi x c => by
      have e5 := wrap1 (i := i) (by omega)
      have hm := impl_isGid.says h.2 l[i]
      rw [badGid_at hi] at c
      simp at c
      simp only [c.1] at hm
      by_cases c1 : 0 < i
      · have c2 : ¬ l[i] ≤ l[i - 1] := by have := c.2 c1; omega
        have e6 : IntKind.i64.wrap ((i : Int) - 1) = ((i - 1 : Nat) : Int) := by rw [wrap_i64 (by omega) (by omega)]; omega
        simp (maxSteps := 1000000) (disch := (first | omega | (simp; done) | (simp; omega))) [impl_areGids.l0, List.range_succ, bs_get, List.take_of_length_le, setAt, str_add, agS, hi, hm, c1, c2, e5, e6, (show i - 1 < l.length by omega)]
      · simp (maxSteps := 1000000) (disch := (first | omega | (simp; done) | (simp; omega))) [impl_areGids.l0, List.range_succ, bs_get, List.take_of_length_le, setAt, str_add, agS, hi, hm, c1, e5])
    (fun i hi x c => by
      have hm := impl_isGid.says h.2 l[i]
      rw [badGid_at hi] at c
      cases c1 : inR 1 l[i] 9999
      · simp only [c1] at hm
        simp (maxSteps := 1000000) (disch := (first | omega | (simp; done) | (simp; omega))) [impl_areGids.l0, List.range_succ, bs_get, List.take_of_length_le, setAt, str_add, agS, hi, hm]
      · simp [c1] at c
        obtain ⟨c2, c3⟩ := c
        simp only [c1] at hm
        have e6 : IntKind.i64.wrap ((i : Int) - 1) = ((i - 1 : Nat) : Int) := by rw [wrap_i64 (by omega) (by omega)]; omega
        simp (maxSteps := 1000000) (disch := (first | omega | (simp; done) | (simp; omega))) [impl_areGids.l0, List.range_succ, bs_get, List.take_of_length_le, setAt, str_add, agS, hi, hm, c2, c3, e6, (show i - 1 < l.length by omega)])
    (fun x => by simp (maxSteps := 1000000) (disch := (first | omega | (simp; done) | (simp; omega))) [impl_areGids.l0, List.range_succ, bs_get, List.take_of_length_le, setAt, str_add, agS, agE])
  cases q : firstN (badGid l) l.length with
  | none =>
    simp [agS, agE, q, fin1] at hr
    simp (maxSteps := 1000000) (disch := (first | omega | (simp; done) | (simp; omega))) [exB, impl_areGids.m, impl_areGids.b, List.range_succ, bs_get, List.take_of_length_le, setAt, str_add, hr, gidsOk, q]
  | some k =>
    simp [agS, q, fin1] at hr
    simp (maxSteps := 1000000) (disch := (first | omega | (simp; done) | (simp; omega))) [exB, impl_areGids.m, impl_areGids.b, List.range_succ, bs_get, List.take_of_length_le, setAt, str_add, hr, gidsOk, q]
def soS (l : List Int) (most : Int) (i : Nat) (x : Nat) : St := { t := [(0, .c (ints l)), (1, .c (I most)), (5, .c (I i))], o := [], n := x }
def soE (l : List Int) (most : Int) (x : Nat) : St := { t := [(0, .c (ints l)), (1, .c (I most)), (5, .c (I l.length)), (9, .c (.bool false))], o := [], n := x }
theorem spec_l06Sorted.says (h : spec_l06Sorted.k M) (l : List Int) (most : Int) (hl : l.length ≤ 4611686018427387904) : run M 186 [.c (ints l), .c (I most)] [] = some (.c (.bool (gidsOk l most)), []) := by
  refine run_code (b := spec_l06Sorted.m) h.1 ⟨l.length + 1, ?_⟩
  obtain ⟨g, hr⟩ := early_loop (f := exC (run M) (l.length + 1) spec_l06Sorted.l0) l.length (badGid l) (soS l most) 4 (.bool false) 0 (soE l most)
    (fun i hi x c => by
      have e5 := wrap1 (i := i) (by omega)
      have hm := spec_l01In.inR h.2 l[i] 1 9999
      rw [badGid_at hi] at c
      simp at c
      simp only [c.1] at hm
      by_cases c1 : 0 < i
      · have c2 : ¬ l[i] ≤ l[i - 1] := by have := c.2 c1; omega
        have e6 : IntKind.i64.wrap ((i : Int) - 1) = ((i - 1 : Nat) : Int) := by rw [wrap_i64 (by omega) (by omega)]; omega
        simp (maxSteps := 1000000) (disch := (first | omega | (simp; done) | (simp; omega))) [spec_l06Sorted.l0, List.range_succ, bs_get, List.take_of_length_le, setAt, str_add, soS, hi, hm, c1, c2, e5, e6, (show i - 1 < l.length by omega)]
      · simp (maxSteps := 1000000) (disch := (first | omega | (simp; done) | (simp; omega))) [spec_l06Sorted.l0, List.range_succ, bs_get, List.take_of_length_le, setAt, str_add, soS, hi, hm, c1, e5])
    (fun i hi x c => by
      have hm := spec_l01In.inR h.2 l[i] 1 9999
      rw [badGid_at hi] at c
      cases c1 : inR 1 l[i] 9999
      · simp only [c1] at hm
        simp (maxSteps := 1000000) (disch := (first | omega | (simp; done) | (simp; omega))) [spec_l06Sorted.l0, List.range_succ, bs_get, List.take_of_length_le, setAt, str_add, soS, hi, hm]
      · simp [c1] at c
        obtain ⟨c2, c3⟩ := c
        simp only [c1] at hm
        have e6 : IntKind.i64.wrap ((i : Int) - 1) = ((i - 1 : Nat) : Int) := by rw [wrap_i64 (by omega) (by omega)]; omega
        simp (maxSteps := 1000000) (disch := (first | omega | (simp; done) | (simp; omega))) [spec_l06Sorted.l0, List.range_succ, bs_get, List.take_of_length_le, setAt, str_add, soS, hi, hm, c2, c3, e6, (show i - 1 < l.length by omega)])
    (fun x => by simp (maxSteps := 1000000) (disch := (first | omega | (simp; done) | (simp; omega))) [spec_l06Sorted.l0, List.range_succ, bs_get, List.take_of_length_le, setAt, str_add, soS, soE])
  cases q : firstN (badGid l) l.length with
  | none =>
    simp [soS, soE, q, fin1] at hr
    simp (maxSteps := 1000000) (disch := (first | omega | (simp; done) | (simp; omega))) [exB, spec_l06Sorted.m, spec_l06Sorted.b, List.range_succ, bs_get, List.take_of_length_le, setAt, str_add, hr, gidsOk, q]
  | some k =>
    simp [soS, q, fin1] at hr
    simp (maxSteps := 1000000) (disch := (first | omega | (simp; done) | (simp; omega))) [exB, spec_l06Sorted.m, spec_l06Sorted.b, List.range_succ, bs_get, List.take_of_length_le, setAt, str_add, hr, gidsOk, q]
def isAt (l : List Int) (g : Int) (i : Nat) : Bool := match l[i]? with
  | some x => decide (x = g)
  | none => false
theorem isAt_at {l : List Int} {g : Int} {i : Nat} (h : i < l.length) : isAt l g i = decide (l[i] = g) := by simp [isAt, h]
theorem isAt_mem (l : List Int) (g : Int) : (firstN (isAt l g) l.length).isSome = decide (g ∈ l) := by
  rw [Bool.eq_iff_iff]
  simp only [decide_eq_true_eq]
  cases q : firstN (isAt l g) l.length with
  | none =>
    have := firstN_none q
    refine ⟨fun h => by simp at h, fun h => ?_⟩
    obtain ⟨i, hi, e⟩ := List.getElem_of_mem h
    have h1 := this i hi
    rw [isAt_at hi] at h1
    simp [e] at h1
  | some k =>
    obtain ⟨h1, h2, _⟩ := firstN_some q
    rw [isAt_at h1] at h2
    simp at h2
    refine ⟨fun _ => ?_, fun _ => rfl⟩
    rw [← h2]; exact List.getElem_mem h1
def siS (l : List Int) (g : Int) (i : Nat) (x : Nat) : St := { t := [(0, .c (ints l)), (1, .c (I g)), (5, .c (I i))], o := [], n := x }
def siE (l : List Int) (g : Int) (x : Nat) : St := { t := [(0, .c (ints l)), (1, .c (I g)), (5, .c (I l.length)), (9, .c (.bool false))], o := [], n := x }
theorem spec_l06In.says (h : spec_l06In.k M) (l : List Int) (g : Int) (hl : l.length ≤ 4611686018427387904) : run M 132 [.c (ints l), .c (I g)] [] = some (.c (.bool (decide (g ∈ l))), []) := by
  refine run_code (b := spec_l06In.m) h ⟨l.length + 1, ?_⟩
  obtain ⟨g', hr⟩ := early_loop (f := exC (run M) (l.length + 1) spec_l06In.l0) l.length (isAt l g) (siS l g) 4 (.bool true) 0 (siE l g)
    (fun i hi x c => by
      have e5 := wrap1 (i := i) (by omega)
      rw [isAt_at hi] at c
      simp at c
      simp (maxSteps := 1000000) (disch := (first | omega | (simp; done) | (simp; omega))) [spec_l06In.l0, List.range_succ, bs_get, List.take_of_length_le, setAt, str_add, siS, hi, e5, c])
    (fun i hi x c => by
      rw [isAt_at hi] at c
      simp at c
      simp (maxSteps := 1000000) (disch := (first | omega | (simp; done) | (simp; omega))) [spec_l06In.l0, List.range_succ, bs_get, List.take_of_length_le, setAt, str_add, siS, hi, c])
    (fun x => by simp (maxSteps := 1000000) (disch := (first | omega | (simp; done) | (simp; omega))) [spec_l06In.l0, List.range_succ, bs_get, List.take_of_length_le, setAt, str_add, siS, siE])
  have hm := isAt_mem l g
  rw [← hm]
  cases q : firstN (isAt l g) l.length with
  | none =>
    simp [siS, siE, q, fin1] at hr
    simp (maxSteps := 1000000) (disch := (first | omega | (simp; done) | (simp; omega))) [exB, spec_l06In.m, spec_l06In.b, List.range_succ, bs_get, List.take_of_length_le, setAt, str_add, hr]
  | some k =>
    simp [siS, q, fin1] at hr
    simp (maxSteps := 1000000) (disch := (first | omega | (simp; done) | (simp; omega))) [exB, spec_l06In.m, spec_l06In.b, List.range_succ, bs_get, List.take_of_length_le, setAt, str_add, hr]
def xiS (l : List Int) (g : Int) (i : Nat) (x : Nat) : St := { t := [(0, .c (ints l)), (1, .c (I g)), (7, .c (I l.length)), (8, .c (I i))], o := [], n := x }
theorem slices_Index_int_int.says (h : slices_Index_int_int.k M) (l : List Int) (g : Int) (hl : l.length ≤ 4611686018427387904) : run M 234 [.c (ints l), .c (I g)] [] = some (.c (I (intO (firstN (isAt l g) l.length))), []) := by
  refine run_code (b := slices_Index_int_int.m) h ⟨l.length + 1, ?_⟩
  obtain ⟨g', hr⟩ := first_loop (f := exC (run M) (l.length + 1) slices_Index_int_int.l0) l.length (isAt l g) (xiS l g) atFin atFin_ne
    (fun i hi x c => by
      have e5 := wrap1 (i := i) (by omega)
      rw [isAt_at hi] at c
      simp at c
      have c' : ¬ g = l[i] := fun q => c q.symm
      simp (maxSteps := 1000000) (disch := (first | omega | (simp; done) | (simp; omega))) [slices_Index_int_int.l0, List.range_succ, bs_get, List.take_of_length_le, setAt, str_add, xiS, hi, e5, c, c'])
    (fun i hi x c => by
      rw [isAt_at hi] at c
      simp at c
      simp (maxSteps := 1000000) (disch := (first | omega | (simp; done) | (simp; omega))) [slices_Index_int_int.l0, List.range_succ, bs_get, List.take_of_length_le, setAt, str_add, xiS, hi, c, atFin]
      exact ⟨⟨[], [], _⟩, rfl⟩)
    (fun x => by simp (maxSteps := 1000000) (disch := (first | omega | (simp; done) | (simp; omega))) [slices_Index_int_int.l0, List.range_succ, bs_get, List.take_of_length_le, setAt, str_add, xiS, atFin])
  cases q : firstN (isAt l g) l.length with
  | none =>
    simp [xiS, q, atFin] at hr
    simp (maxSteps := 1000000) (disch := (first | omega | (simp; done) | (simp; omega))) [exB, slices_Index_int_int.m, slices_Index_int_int.b, List.range_succ, bs_get, List.take_of_length_le, setAt, str_add, hr, intO]
  | some k =>
    simp [xiS, q, atFin] at hr
    simp (maxSteps := 1000000) (disch := (first | omega | (simp; done) | (simp; omega))) [exB, slices_Index_int_int.m, slices_Index_int_int.b, List.range_succ, bs_get, List.take_of_length_le, setAt, str_add, hr, intO]
theorem intO_pos (q : Option Nat) : decide (0 ≤ intO q) = q.isSome := by cases q <;> simp [intO]
theorem slices_Contains_int_int.says (h : slices_Contains_int_int.k M) (l : List Int) (g : Int) (hl : l.length ≤ 4611686018427387904) : run M 156 [.c (ints l), .c (I g)] [] = some (.c (.bool (decide (g ∈ l))), []) := by
  have h1 := slices_Index_int_int.says h.2 l g hl
  refine run_code (b := slices_Contains_int_int.m) h.1 ⟨0, ?_⟩
  rw [← isAt_mem l g, ← intO_pos]
  simp (maxSteps := 1000000) (disch := (first | omega | (simp; done) | (simp; omega))) [exB, slices_Contains_int_int.m, slices_Contains_int_int.b, List.range_succ, bs_get, List.take_of_length_le, setAt, str_add, h1]
end Mx

namespace Mx
open Go
variable {M : Nat → Option Body}
def guS (l : List Int) (x : Int) (i : Nat) (s : List Int) (m : Nat × Nat) : St := { t := [(0, .c (ints l)), (1, .c (I x)), (5, .c (.row 8 m.1 0 s.length)), (6, .c (I i))], o := [(8, ⟨m.1, 1, true, false, irow s⟩)], n := m.2 }
def guE (l : List Int) (x : Int) (s : List Int) (m : Nat × Nat) : St := { t := [(0, .c (ints l)), (1, .c (I x)), (5, .c (.row 8 m.1 0 s.length)), (6, .c (I l.length)), (12, .c (.bool false))], o := [(8, ⟨m.1, 1, true, false, irow s⟩)], n := m.2 }
def gvS (l : List Int) (x : Int) (i : Nat) (s : List Int) (m : Nat × Nat) : St := { t := [(0, .c (ints l)), (1, .c (I x)), (5, .c (.row 8 m.1 0 s.length)), (7, .c (I i))], o := [(8, ⟨m.1, 1, true, false, irow s⟩)], n := m.2 }
def gvE (l : List Int) (x : Int) (s : List Int) (m : Nat × Nat) : St := { t := [(0, .c (ints l)), (1, .c (I x)), (5, .c (.row 8 m.1 0 s.length)), (7, .c (I l.length)), (35, .c (.bool false))], o := [(8, ⟨m.1, 1, true, false, irow s⟩)], n := m.2 }
theorem filter_fold (p : Int → Bool) : ∀ (l s : List Int), l.foldl (fun s a => if p a = true then s ++ [a] else s) s = s ++ l.filter p
  | [], s => by simp
  | a :: l, s => by
    rw [List.foldl_cons, filter_fold p l, List.filter_cons]
    by_cases h : p a = true <;> simp [h]
theorem irow_snoc (s : List Int) (a : Int) : irow (s ++ [a]) = irow s ++ [[I a]] := by simp [irow]
theorem irow_length (s : List Int) : (irow s).length = s.length := by simp [irow]
theorem spec_l06Put.says (h : spec_l06Put.k M) (l : List Int) (x : Int) (hl : l.length ≤ 16777216) : run M 133 [.c (ints l), .c (I x)] [] = some (.c (.sl true 1 (irow (gput l x))), []) := by
  refine run_code (b := spec_l06Put.m) h ⟨l.length + 1, ?_⟩
  obtain ⟨g, hr⟩ := fold_loop (f := exC (run M) (l.length + 1) spec_l06Put.l0) l (fun s a => if decide (a < x) = true then s ++ [a] else s) (fun i s => s.length ≤ i) (guS l x) 0 (guE l x)
    (fun i h s hs => by split <;> (try simp) <;> omega)
    (fun i hi s m hs => by
      obtain ⟨v, m⟩ := m
      have e5 := wrap1 (i := i) (by omega)
      have e6 : s.length + 1 ≤ 4294967296 := by omega
      have e9 := irow_length s
      simp only [Prod.exists]
      by_cases c : l[i] < x
      · simp only [c, decide_true, if_true, guS, irow_snoc]
        generalize irow s = rr at *
        simp (maxSteps := 1000000) [spec_l06Put.l0, List.range_succ, bs_get, setAt, hi, c, e5, e6, e9, List.take_of_length_le]
      · simp only [c, decide_false, Bool.false_eq_true, if_false]
        simp (maxSteps := 1000000) [spec_l06Put.l0, List.range_succ, bs_get, setAt, guS, hi, c, e5])
    (fun s m hs => by
      obtain ⟨v, m⟩ := m
      simp only [Prod.exists]
      simp (maxSteps := 1000000) [spec_l06Put.l0, List.range_succ, bs_get, setAt, guS, guE]) [] (by simp)
  obtain ⟨g', hr'⟩ := fold_loop (f := exC (run M) (l.length + 1) spec_l06Put.l1) l (fun s a => if decide (x < a) = true then s ++ [a] else s) (fun i s => s.length ≤ l.length + 1 + i) (gvS l x) 2 (gvE l x)
    (fun i h s hs => by split <;> (try simp) <;> omega)
    (fun i hi s m hs => by
      obtain ⟨v, m⟩ := m
      have e5 := wrap1 (i := i) (by omega)
      have e6 : s.length + 1 ≤ 4294967296 := by omega
      have e9 := irow_length s
      simp only [Prod.exists]
      by_cases c : x < l[i]
      · simp only [c, decide_true, if_true, gvS, irow_snoc]
        generalize irow s = rr at *
        simp (maxSteps := 1000000) [spec_l06Put.l1, List.range_succ, bs_get, setAt, hi, c, e5, e6, e9, List.take_of_length_le]
      · simp only [c, decide_false, Bool.false_eq_true, if_false]
        simp (maxSteps := 1000000) [spec_l06Put.l1, List.range_succ, bs_get, setAt, gvS, hi, c, e5])
    (fun s m hs => by
      obtain ⟨v, m⟩ := m
      simp only [Prod.exists]
      simp (maxSteps := 1000000) [spec_l06Put.l1, List.range_succ, bs_get, setAt, gvS, gvE]) (l.filter (fun y => decide (y < x)) ++ [x]) (by have := List.length_filter_le (fun y => decide (y < x)) l; simp; omega)
  rw [filter_fold] at hr hr'
  have hfl := List.length_filter_le (fun y => decide (y < x)) l
  have e6 : (l.filter (fun y => decide (y < x))).length + 1 ≤ 4294967296 := by omega
  have e9 := irow_length (l.filter (fun y => decide (y < x)))
  have e10 := irow_length (l.filter (fun y => decide (y < x)) ++ [x] ++ l.filter (fun y => decide (x < y)))
  have e11 : (l.filter (fun y => decide (y < x)) ++ [x] ++ l.filter (fun y => decide (x < y))).length = (l.filter (fun y => decide (y < x))).length + ((l.filter (fun y => decide (x < y))).length + 1) := by simp only [List.length_append, List.length_singleton]; omega
  rw [e11] at e10
  have e12 := irow_snoc (l.filter (fun y => decide (y < x))) x
  unfold gput
  simp only [List.nil_append] at hr
  simp only [guS, guE, List.length_nil, e11] at hr
  simp only [gvS, gvE, e12, e11, List.length_append, List.length_singleton] at hr'
  generalize irow (l.filter (fun y => decide (y < x)) ++ [x] ++ l.filter (fun y => decide (x < y))) = r2 at *
  generalize irow (l.filter (fun y => decide (y < x))) = r1 at *
  simp [irow] at hr
  simp at hr'
  simp (maxSteps := 1000000) [exB, spec_l06Put.m, spec_l06Put.b, List.range_succ, bs_get, setAt, hr, hr', e6, e9, e10, List.take_of_length_le, irow]
structure GX where
  w : Nat
  v8 : Nat
  v1 : Nat
  v2 : Nat
  r8 : List (List T)
  r1 : List (List T)
  n : Nat
theorem GX.of {p : GX → Prop} (w r8 r1) (h : ∃ v8 v1 v2 n, p ⟨w, v8, v1, v2, r8, r1, n⟩) : ∃ x, p x := by
  obtain ⟨v8, v1, v2, n, h⟩ := h; exact ⟨_, h⟩
end Mx

namespace Mx
open Go
variable {M : Nat → Option Body}
def badMail (b : Box) (i : Nat) : Bool := match b.mails[i]? with
  | some m => !mailOk m || decide (b.next ≤ m.uid) || (decide (0 < i) && match b.mails[i - 1]? with | some p => decide (m.uid ≤ p.uid) | none => false) || !decide (intO (mailO b.mails m.gid) = (i : Int)) || decide (m.gid ∈ b.gone)
  | none => false
theorem badMail_at {b : Box} {i : Nat} (h : i < b.mails.length) : badMail b i = (!mailOk b.mails[i] || decide (b.next ≤ b.mails[i].uid) || (decide (0 < i) && decide (b.mails[i].uid ≤ b.mails[i - 1].uid)) ||
    !decide (intO (mailO b.mails b.mails[i].gid) = (i : Int)) || decide (b.mails[i].gid ∈ b.gone)) := by
  simp [badMail, h, (show i - 1 < b.mails.length by omega)]
def boxOk (b : Box) : Bool := inR 1 b.gid 9999 && nameOk b.name && stampOk b.time b.who && inR 1 b.next 10000 && decide (b.mails.length ≤ 10) && gidsOk b.gone 40 && (firstN (badMail b) b.mails.length).isNone
def ibS (b : Box) (i : Nat) (x : Nat × Nat) : St := { t := [(1, .c (.ptr 1 x.1 0 0)), (40, .c (mails b.mails)), (41, .c (I b.mails.length)), (42, .c (I i))], o := [(1, ⟨x.1, 7, true, true, [encBox b]⟩)], n := x.2 }
def ibSE (b : Box) (x : Nat × Nat) : St := { t := [(1, .c (.ptr 1 x.1 0 0)), (40, .c (mails b.mails)), (41, .c (I b.mails.length)), (42, .c (I b.mails.length)), (43, .c (.bool false))], o := [(1, ⟨x.1, 7, true, true, [encBox b]⟩)], n := x.2 }
theorem impl_BoxOk.good (hat : impl_MailAt.k M) (hin : slices_Contains_int_int.k M) (hmo : impl_MailOk.k M) (b : Box) (hml : b.mails.length ≤ 1048576) (hgl : b.gone.length ≤ 4611686018427387904) (hw : ∀ m ∈ b.mails, m.flags.length ≤ 1048576)
    (i : Nat) (hi : i < b.mails.length) (x : Nat × Nat) (c : badMail b i = false) : ∃ y, exC (run M) (b.mails.length + 1) impl_BoxOk.l0 (ibS b i x) = some (.normal, ibS b (i + 1) y) := by
      obtain ⟨v, x⟩ := x
      simp only [Prod.exists]
      have hm := impl_MailOk.says hmo b.mails[i] (hw _ (List.getElem_mem hi))
      have ha := impl_MailAt.says hat b b.mails[i].gid hml
      have hg := slices_Contains_int_int.says hin b.gone b.mails[i].gid hgl
      simp only [encMail, encBox] at hm ha hg
      rw [badMail_at hi] at c
      simp at c
      obtain ⟨⟨⟨⟨c1, c2⟩, c3⟩, c4⟩, c5⟩ := c
      have e5 := wrap1 (i := i) (by omega)
      rw [c1] at hm
      rw [c4] at ha
      rw [decide_eq_false c5] at hg
      have c2' : ¬ b.next ≤ b.mails[i].uid := by omega
      by_cases c6 : 0 < i
      · have e6 : IntKind.i64.wrap ((i : Int) - 1) = ((i - 1 : Nat) : Int) := by rw [wrap_i64 (by omega) (by omega)]; omega
        have c3' : ¬ b.mails[i].uid ≤ b.mails[i - 1].uid := by have := c3 c6; omega
        simp (maxSteps := 1000000) [impl_BoxOk.l0, List.range_succ, bs_get, setAt, ibS, encMail, hi, hm, ha, hg, c2', c6, c3', e5, e6, (show i - 1 < b.mails.length by omega)]
      · simp (maxSteps := 1000000) [impl_BoxOk.l0, List.range_succ, bs_get, setAt, ibS, encMail, hi, hm, ha, hg, c2', c6, e5]
theorem impl_BoxOk.bad (hat : impl_MailAt.k M) (hin : slices_Contains_int_int.k M) (hmo : impl_MailOk.k M) (b : Box) (hml : b.mails.length ≤ 1048576) (hgl : b.gone.length ≤ 4611686018427387904) (hw : ∀ m ∈ b.mails, m.flags.length ≤ 1048576)
    (i : Nat) (hi : i < b.mails.length) (x : Nat × Nat) (c : badMail b i = true) : ∃ k, exC (run M) (b.mails.length + 1) impl_BoxOk.l0 (ibS b i x) = some (.ret, { t := [(2, .c (.bool false))], o := [], n := k }) := by
      obtain ⟨v, x⟩ := x
      have hm := impl_MailOk.says hmo b.mails[i] (hw _ (List.getElem_mem hi))
      have ha := impl_MailAt.says hat b b.mails[i].gid hml
      have hg := slices_Contains_int_int.says hin b.gone b.mails[i].gid hgl
      simp only [encMail, encBox] at hm ha hg
      rw [badMail_at hi] at c
      cases c1 : mailOk b.mails[i]
      · rw [c1] at hm
        simp (maxSteps := 1000000) [impl_BoxOk.l0, List.range_succ, bs_get, setAt, ibS, encMail, hi, hm]
      rw [c1] at hm
      by_cases c2 : b.next ≤ b.mails[i].uid
      · simp (maxSteps := 1000000) [impl_BoxOk.l0, List.range_succ, bs_get, setAt, ibS, encMail, hi, hm, c2]
      have c2' : ¬ b.next ≤ b.mails[i].uid := c2
      by_cases c6 : 0 < i
      · have e6 : IntKind.i64.wrap ((i : Int) - 1) = ((i - 1 : Nat) : Int) := by rw [wrap_i64 (by omega) (by omega)]; omega
        by_cases c3 : b.mails[i].uid ≤ b.mails[i - 1].uid
        · simp (maxSteps := 1000000) [impl_BoxOk.l0, List.range_succ, bs_get, setAt, ibS, encMail, hi, hm, c2, c6, c3, e6, (show i - 1 < b.mails.length by omega)]
        by_cases c4 : intO (mailO b.mails b.mails[i].gid) = (i : Int)
        rotate_left
        · simp (maxSteps := 1000000) [impl_BoxOk.l0, List.range_succ, bs_get, setAt, ibS, encMail, hi, hm, c2, c6, c3, e6, (show i - 1 < b.mails.length by omega), ha, c4]
        rw [c4] at ha
        by_cases c5 : b.mails[i].gid ∈ b.gone
        rotate_left
        · simp [c1, c2, c3, c4, c5] at c
        rw [decide_eq_true c5] at hg
        simp (maxSteps := 1000000) [impl_BoxOk.l0, List.range_succ, bs_get, setAt, ibS, encMail, hi, hm, c2, c6, c3, e6, (show i - 1 < b.mails.length by omega), ha, hg]
      · have c3 := c6
        by_cases c4 : intO (mailO b.mails b.mails[i].gid) = (i : Int)
        rotate_left
        · simp (maxSteps := 1000000) [impl_BoxOk.l0, List.range_succ, bs_get, setAt, ibS, encMail, hi, hm, c2, c6, ha, c4]
        rw [c4] at ha
        by_cases c5 : b.mails[i].gid ∈ b.gone
        rotate_left
        · simp [c1, c2, c3, c4, c5] at c
        rw [decide_eq_true c5] at hg
        simp (maxSteps := 1000000) [impl_BoxOk.l0, List.range_succ, bs_get, setAt, ibS, encMail, hi, hm, c2, c6, ha, hg]
theorem impl_BoxOk.says (h : impl_BoxOk.k M) (b : Box) (hml : b.mails.length ≤ 1048576) (hgl : b.gone.length ≤ 4611686018427387904) (hnl : b.name.length ≤ 4611686018427387904) (hw : ∀ m ∈ b.mails, m.flags.length ≤ 1048576) :
    run M 74 [.a (encBox b)] [] = some (.c (.bool (boxOk b)), []) := by
  obtain ⟨h0, hat, hno, hwi, hig, hin, hso, hgo, hmo⟩ := h
  have h1 := impl_isGid.says hig b.gid
  have h2 := impl_NameOk.says hno b.name hnl
  have h3 := impl_StampOk.says hso b.time b.who
  have h4 := impl_within.inR hwi b.next 1 10000
  have h5 := impl_areGids.says hgo b.gone 40 hgl
  refine run_code (b := impl_BoxOk.m) h0 ⟨b.mails.length + 1, ?_⟩
  obtain ⟨g, hr⟩ := early_loop (f := exC (run M) (b.mails.length + 1) impl_BoxOk.l0) b.mails.length (badMail b) (ibS b) 2 (.bool false) 0 (ibSE b)
    (fun i hi x c => impl_BoxOk.good hat hin hmo b hml hgl hw i hi x c)
    (fun i hi x c => impl_BoxOk.bad hat hin hmo b hml hgl hw i hi x c)
    (fun x => by
      obtain ⟨v, x⟩ := x
      simp only [Prod.exists]
      simp (maxSteps := 1000000) [impl_BoxOk.l0, List.range_succ, bs_get, setAt, ibS, ibSE])
  cases c1 : inR 1 b.gid 9999
  · simp (maxSteps := 1000000) [exB, impl_BoxOk.m, impl_BoxOk.b, List.range_succ, bs_get, setAt, h1, c1, boxOk]
  cases c2 : nameOk b.name
  · simp (maxSteps := 1000000) [exB, impl_BoxOk.m, impl_BoxOk.b, List.range_succ, bs_get, setAt, h1, h2, c1, c2, boxOk]
  cases c3 : stampOk b.time b.who
  · simp (maxSteps := 1000000) [exB, impl_BoxOk.m, impl_BoxOk.b, List.range_succ, bs_get, setAt, h1, h2, h3, c1, c2, c3, boxOk]
  cases c4 : inR 1 b.next 10000
  · simp (maxSteps := 1000000) [exB, impl_BoxOk.m, impl_BoxOk.b, List.range_succ, bs_get, setAt, h1, h2, h3, h4, c1, c2, c3, c4, boxOk]
  by_cases c5 : 10 < b.mails.length
  · have c5' : ¬ b.mails.length ≤ 10 := by omega
    have ci : (10 : Int) < b.mails.length := by omega
    simp (maxSteps := 1000000) [exB, impl_BoxOk.m, impl_BoxOk.b, List.range_succ, bs_get, setAt, h1, h2, h3, h4, c1, c2, c3, c4, c5, c5', ci, boxOk]
  have c5' : b.mails.length ≤ 10 := by omega
  have ci : ¬ (10 : Int) < b.mails.length := by omega
  cases c6 : gidsOk b.gone 40
  · simp (maxSteps := 1000000) [exB, impl_BoxOk.m, impl_BoxOk.b, List.range_succ, bs_get, setAt, h1, h2, h3, h4, h5, c1, c2, c3, c4, c5, ci, c6, boxOk]
  cases q : firstN (badMail b) b.mails.length with
  | none =>
    simp [ibS, ibSE, q, fin1] at hr
    simp (maxSteps := 1000000) [exB, impl_BoxOk.m, impl_BoxOk.b, List.range_succ, bs_get, setAt, h1, h2, h3, h4, h5, c1, c2, c3, c4, c5, c5', ci, c6, hr, boxOk, q]
  | some k =>
    simp [ibS, q, fin1] at hr
    simp (maxSteps := 1000000) [exB, impl_BoxOk.m, impl_BoxOk.b, List.range_succ, bs_get, setAt, h1, h2, h3, h4, h5, c1, c2, c3, c4, c5, c5', ci, c6, hr, boxOk, q]
def sbxS (b : Box) (i : Nat) (x : Nat × Nat) : St := { t := [(1, .c (.ptr 1 x.1 0 0)), (3, .c (I i))], o := [(1, ⟨x.1, 7, true, true, [encBox b]⟩)], n := x.2 }
def sbxSE (b : Box) (x : Nat × Nat) : St := { t := [(1, .c (.ptr 1 x.1 0 0)), (3, .c (I b.mails.length)), (43, .c (.bool false))], o := [(1, ⟨x.1, 7, true, true, [encBox b]⟩)], n := x.2 }
theorem spec_BoxOk.good (hat : spec_MailAt.k M) (hin : spec_l06In.k M) (hmo : spec_MailOk.k M) (b : Box) (hml : b.mails.length ≤ 1048576) (hgl : b.gone.length ≤ 4611686018427387904) (hw : ∀ m ∈ b.mails, m.flags.length ≤ 1048576)
    (i : Nat) (hi : i < b.mails.length) (x : Nat × Nat) (c : badMail b i = false) : ∃ y, exC (run M) (b.mails.length + 1) spec_BoxOk.l0 (sbxS b i x) = some (.normal, sbxS b (i + 1) y) := by
      obtain ⟨v, x⟩ := x
      simp only [Prod.exists]
      have hm := spec_MailOk.says hmo b.mails[i] (hw _ (List.getElem_mem hi))
      have ha := spec_MailAt.says hat b b.mails[i].gid hml
      have hg := spec_l06In.says hin b.gone b.mails[i].gid hgl
      simp only [encMail, encBox] at hm ha hg
      rw [badMail_at hi] at c
      simp at c
      obtain ⟨⟨⟨⟨c1, c2⟩, c3⟩, c4⟩, c5⟩ := c
      have e5 := wrap1 (i := i) (by omega)
      rw [c1] at hm
      rw [c4] at ha
      rw [decide_eq_false c5] at hg
      have c2' : ¬ b.next ≤ b.mails[i].uid := by omega
      by_cases c6 : 0 < i
      · have e6 : IntKind.i64.wrap ((i : Int) - 1) = ((i - 1 : Nat) : Int) := by rw [wrap_i64 (by omega) (by omega)]; omega
        have c3' : ¬ b.mails[i].uid ≤ b.mails[i - 1].uid := by have := c3 c6; omega
        simp (maxSteps := 1000000) [spec_BoxOk.l0, List.range_succ, bs_get, setAt, sbxS, encMail, hi, hm, ha, hg, c2', c6, c3', e5, e6, (show i - 1 < b.mails.length by omega)]
      · simp (maxSteps := 1000000) [spec_BoxOk.l0, List.range_succ, bs_get, setAt, sbxS, encMail, hi, hm, ha, hg, c2', c6, e5]
theorem spec_BoxOk.bad (hat : spec_MailAt.k M) (hin : spec_l06In.k M) (hmo : spec_MailOk.k M) (b : Box) (hml : b.mails.length ≤ 1048576) (hgl : b.gone.length ≤ 4611686018427387904) (hw : ∀ m ∈ b.mails, m.flags.length ≤ 1048576)
    (i : Nat) (hi : i < b.mails.length) (x : Nat × Nat) (c : badMail b i = true) : ∃ k, exC (run M) (b.mails.length + 1) spec_BoxOk.l0 (sbxS b i x) = some (.ret, { t := [(2, .c (.bool false))], o := [], n := k }) := by
      obtain ⟨v, x⟩ := x
      have hm := spec_MailOk.says hmo b.mails[i] (hw _ (List.getElem_mem hi))
      have ha := spec_MailAt.says hat b b.mails[i].gid hml
      have hg := spec_l06In.says hin b.gone b.mails[i].gid hgl
      simp only [encMail, encBox] at hm ha hg
      rw [badMail_at hi] at c
      cases c1 : mailOk b.mails[i]
      · rw [c1] at hm
        simp (maxSteps := 1000000) [spec_BoxOk.l0, List.range_succ, bs_get, setAt, sbxS, encMail, hi, hm]
      rw [c1] at hm
      by_cases c2 : b.next ≤ b.mails[i].uid
      · simp (maxSteps := 1000000) [spec_BoxOk.l0, List.range_succ, bs_get, setAt, sbxS, encMail, hi, hm, c2]
      have c2' : ¬ b.next ≤ b.mails[i].uid := c2
      by_cases c6 : 0 < i
      · have e6 : IntKind.i64.wrap ((i : Int) - 1) = ((i - 1 : Nat) : Int) := by rw [wrap_i64 (by omega) (by omega)]; omega
        by_cases c3 : b.mails[i].uid ≤ b.mails[i - 1].uid
        · simp (maxSteps := 1000000) [spec_BoxOk.l0, List.range_succ, bs_get, setAt, sbxS, encMail, hi, hm, c2, c6, c3, e6, (show i - 1 < b.mails.length by omega)]
        by_cases c5 : b.mails[i].gid ∈ b.gone
        · rw [decide_eq_true c5] at hg
          simp (maxSteps := 1000000) [spec_BoxOk.l0, List.range_succ, bs_get, setAt, sbxS, encMail, hi, hm, c2, c6, c3, e6, (show i - 1 < b.mails.length by omega), hg]
        rw [decide_eq_false c5] at hg
        by_cases c4 : intO (mailO b.mails b.mails[i].gid) = (i : Int)
        · simp [c1, c2, c3, c4, c5] at c
        simp (maxSteps := 1000000) [spec_BoxOk.l0, List.range_succ, bs_get, setAt, sbxS, encMail, hi, hm, c2, c6, c3, e6, (show i - 1 < b.mails.length by omega), ha, hg, c4]
      · have c3 := c6
        by_cases c5 : b.mails[i].gid ∈ b.gone
        · rw [decide_eq_true c5] at hg
          simp (maxSteps := 1000000) [spec_BoxOk.l0, List.range_succ, bs_get, setAt, sbxS, encMail, hi, hm, c2, c6, hg]
        rw [decide_eq_false c5] at hg
        by_cases c4 : intO (mailO b.mails b.mails[i].gid) = (i : Int)
        · simp [c1, c2, c3, c4, c5] at c
        simp (maxSteps := 1000000) [spec_BoxOk.l0, List.range_succ, bs_get, setAt, sbxS, encMail, hi, hm, c2, c6, ha, hg, c4]
theorem spec_BoxOk.says (h : spec_BoxOk.k M) (b : Box) (hml : b.mails.length ≤ 1048576) (hgl : b.gone.length ≤ 4611686018427387904) (hnl : b.name.length ≤ 4611686018427387904) (hw : ∀ m ∈ b.mails, m.flags.length ≤ 1048576) :
    run M 88 [.a (encBox b)] [] = some (.c (.bool (boxOk b)), []) := by
  obtain ⟨h0, hno, hat, hwi, hin, hso, hgo, hmo⟩ := h
  have h1 := spec_l01In.inR hwi b.gid 1 9999
  have h2 := spec_NameOk.says hno b.name hnl
  have h3 := spec_StampOk.says hso b.time b.who
  have h4 := spec_l01In.inR hwi b.next 1 10000
  have h5 := spec_l06Sorted.says hgo b.gone 40 hgl
  refine run_code (b := spec_BoxOk.m) h0 ⟨b.mails.length + 1, ?_⟩
  obtain ⟨g, hr⟩ := early_loop (f := exC (run M) (b.mails.length + 1) spec_BoxOk.l0) b.mails.length (badMail b) (sbxS b) 2 (.bool false) 0 (sbxSE b)
    (fun i hi x c => spec_BoxOk.good hat hin hmo b hml hgl hw i hi x c)
    (fun i hi x c => spec_BoxOk.bad hat hin hmo b hml hgl hw i hi x c)
    (fun x => by
      obtain ⟨v, x⟩ := x
      simp only [Prod.exists]
      simp (maxSteps := 1000000) [spec_BoxOk.l0, List.range_succ, bs_get, setAt, sbxS, sbxSE])
  cases c1 : inR 1 b.gid 9999
  · simp (maxSteps := 1000000) [exB, spec_BoxOk.m, spec_BoxOk.b, List.range_succ, bs_get, setAt, h1, c1, boxOk]
  cases c2 : nameOk b.name
  · simp (maxSteps := 1000000) [exB, spec_BoxOk.m, spec_BoxOk.b, List.range_succ, bs_get, setAt, h1, h2, c1, c2, boxOk]
  cases c3 : stampOk b.time b.who
  · simp (maxSteps := 1000000) [exB, spec_BoxOk.m, spec_BoxOk.b, List.range_succ, bs_get, setAt, h1, h2, h3, c1, c2, c3, boxOk]
  cases c4 : inR 1 b.next 10000
  · simp (maxSteps := 1000000) [exB, spec_BoxOk.m, spec_BoxOk.b, List.range_succ, bs_get, setAt, h1, h2, h3, h4, c1, c2, c3, c4, boxOk]
  by_cases c5 : 10 < b.mails.length
  · have c5' : ¬ b.mails.length ≤ 10 := by omega
    have ci : (10 : Int) < b.mails.length := by omega
    simp (maxSteps := 1000000) [exB, spec_BoxOk.m, spec_BoxOk.b, List.range_succ, bs_get, setAt, h1, h2, h3, h4, c1, c2, c3, c4, c5, c5', ci, boxOk]
  have c5' : b.mails.length ≤ 10 := by omega
  have ci : ¬ (10 : Int) < b.mails.length := by omega
  cases c6 : gidsOk b.gone 40
  · simp (maxSteps := 1000000) [exB, spec_BoxOk.m, spec_BoxOk.b, List.range_succ, bs_get, setAt, h1, h2, h3, h4, h5, c1, c2, c3, c4, c5, ci, c6, boxOk]
  cases q : firstN (badMail b) b.mails.length with
  | none =>
    simp [sbxS, sbxSE, q, fin1] at hr
    simp (maxSteps := 1000000) [exB, spec_BoxOk.m, spec_BoxOk.b, List.range_succ, bs_get, setAt, h1, h2, h3, h4, h5, c1, c2, c3, c4, c5, c5', ci, c6, hr, boxOk, q]
  | some k =>
    simp [sbxS, q, fin1] at hr
    simp (maxSteps := 1000000) [exB, spec_BoxOk.m, spec_BoxOk.b, List.range_succ, bs_get, setAt, h1, h2, h3, h4, h5, c1, c2, c3, c4, c5, c5', ci, c6, hr, boxOk, q]
end Mx

namespace Mx
open Go
variable {M : Nat → Option Body}
structure Store where
  who : Int
  time : Int
  boxes : List Box
  gone : List Int
abbrev boxes (l : List Box) : T := .sl false 7 (l.map encBox)
abbrev encStore (s : Store) : List T := [I s.who, I s.time, boxes s.boxes, ints s.gone]
abbrev encStoreO (s : Store) : List T := [I s.who, I s.time, .sl true 7 (s.boxes.map encBox), .sl true 1 (irow s.gone)]
end Mx

namespace Mx
open Go
variable {M : Nat → Option Body}
/-- a place of a list whose thing is so -/
def atP {α : Type} (p : α → Bool) (l : List α) (i : Nat) : Bool := match l[i]? with
  | some x => p x
  | none => false
theorem atP_at {α : Type} {p : α → Bool} {l : List α} {i : Nat} (h : i < l.length) : atP p l i = p l[i] := by simp [atP, h]
theorem firstF_findIdx {α : Type} (p : α → Bool) (l : List α) : ∀ d i, i + d = l.length → firstF (atP p l) d i = ((l.drop i).findIdx? p).map (· + i)
  | 0, i, h => by rw [firstF, List.drop_eq_nil_of_le (by omega)]; rfl
  | d + 1, i, h => by
    have hi : i < l.length := by omega
    rw [firstF, atP_at hi, List.drop_eq_getElem_cons hi, List.findIdx?_cons]
    split
    · simp
    · rw [firstF_findIdx p l d (i + 1) (by omega), Option.map_map]
      congr 1; funext x; simp only [Function.comp]; omega
theorem firstN_findIdx {α : Type} (p : α → Bool) (l : List α) : firstN (atP p l) l.length = l.findIdx? p := by
  rw [firstN, firstF_findIdx p l _ _ (by omega)]; simp
theorem firstN_any {α : Type} (p : α → Bool) (l : List α) : (firstN (atP p l) l.length).isSome = l.any p := by
  rw [firstN_findIdx, List.findIdx?_isSome]
def named (l : List Box) (s : List UInt8) : Option Nat := l.findIdx? fun b => decide (b.name = s)
def bnS (st : Store) (s : List UInt8) (i : Nat) (x : Nat × Nat) : St := { t := [(1, .c (S s)), (2, .c (.ptr 2 x.1 0 0)), (5, .c (I i))], o := [(2, ⟨x.1, 4, true, true, [encStore st]⟩)], n := x.2 }
/-- a loop that answers the first place found -/
def finI {β : Type} (r : Nat) (e : Nat) (E : β → St) (q : Option Nat) (m : β × Nat) : Out × St := match q with
  | none => (.exit e, E m.1)
  | some k => (.ret, { t := [(r, .c (I k))], o := [], n := m.2 })
theorem index_loop {β γ : Type} (n : Nat) (p : Nat → Bool) {f : St → Option (Out × St)} (S : Nat → β → St) (r : Nat) (e : Nat) (E : γ → St) (z : γ)
    (h1 : ∀ i, i < n → ∀ x, p i = false → ∃ y, f (S i x) = some (.normal, S (i + 1) y)) (h2 : ∀ i, i < n → ∀ x, p i = true → ∃ k, f (S i x) = some (.ret, { t := [(r, .c (I i))], o := [], n := k }))
    (h3 : ∀ x, ∃ y, f (S n x) = some (.exit e, E y)) : ∃ g : β → γ × Nat, ∀ x, loopN f (n + 1) (S 0 x) = some (finI r e E (firstN p n) (g x)) :=
  first_loop n p S (finI r e E) (fun q m => by cases q <;> simp [finI]) h1 (fun i hi x c => by
    obtain ⟨k, hk⟩ := h2 i hi x c
    exact ⟨(z, k), hk⟩) (fun x => by
    obtain ⟨y, hy⟩ := h3 x
    exact ⟨(y, 0), hy⟩)
def bnE (st : Store) (s : List UInt8) (x : Nat × Nat) : St := { t := [(1, .c (S s)), (2, .c (.ptr 2 x.1 0 0)), (5, .c (I st.boxes.length)), (10, .c (.bool false))], o := [(2, ⟨x.1, 4, true, true, [encStore st]⟩)], n := x.2 }
theorem spec_BoxNamed.says (h : spec_BoxNamed.k M) (st : Store) (s : List UInt8) (hb : st.boxes.length ≤ 1048576) : run M 226 [.a (encStore st), .c (S s)] [] = some (.c (I (intO (named st.boxes s))), []) := by
  refine run_code (b := spec_BoxNamed.m) h ⟨st.boxes.length + 1, ?_⟩
  obtain ⟨g, hr⟩ := index_loop (f := exC (run M) (st.boxes.length + 1) spec_BoxNamed.l0) st.boxes.length (atP (fun b => decide (b.name = s)) st.boxes) (bnS st s) 4 0 (bnE st s) (0, 0)
    (fun i hi x c => by
      obtain ⟨v, x⟩ := x
      rw [atP_at hi, decide_eq_false_iff_not] at c
      have e5 := wrap1 (i := i) (by omega)
      simp only [Prod.exists]
      simp (maxSteps := 1000000) [spec_BoxNamed.l0, List.range_succ, bs_get, setAt, bnS, hi, c, encBox, e5])
    (fun i hi x c => by
      obtain ⟨v, x⟩ := x
      rw [atP_at hi, decide_eq_true_eq] at c
      simp (maxSteps := 1000000) [spec_BoxNamed.l0, List.range_succ, bs_get, setAt, bnS, hi, c, encBox])
    (fun x => by
      obtain ⟨v, x⟩ := x
      simp only [Prod.exists]
      simp (maxSteps := 1000000) [spec_BoxNamed.l0, List.range_succ, bs_get, setAt, bnS, bnE])
  rw [firstN_findIdx] at hr
  unfold named
  cases hm : st.boxes.findIdx? fun b => decide (b.name = s) with
  | none =>
    simp [bnS, hm, finI, bnE] at hr
    simp (maxSteps := 1000000) [exB, spec_BoxNamed.m, spec_BoxNamed.b, List.range_succ, bs_get, setAt, hr, intO]
  | some k =>
    simp [bnS, hm, finI] at hr
    simp (maxSteps := 1000000) [exB, spec_BoxNamed.m, spec_BoxNamed.b, List.range_succ, bs_get, setAt, hr, intO]
theorem impl_BoxNamed_1.says (h : impl_BoxNamed_1.k M) (b : Box) (s : List UInt8) : run M 271 [.a (encBox b), .c (.vp [S s] 0)] [] = some (.c (.bool (decide (b.name = s))), []) := by
  refine run_code (b := impl_BoxNamed_1.m) h ⟨0, ?_⟩
  simp (maxSteps := 1000000) [exB, impl_BoxNamed_1.m, impl_BoxNamed_1.b, List.range_succ, bs_get, setAt]
def ixbS (l : List Box) (s : List UInt8) (i : Nat) (x : Nat) : St := { t := [(0, .c (boxes l)), (1, .c (.fn 271 [.vp [S s] 0])), (7, .c (I l.length)), (8, .c (I i))], o := [], n := x }
def ixbE (l : List Box) (s : List UInt8) (x : Nat) : St := { t := [(0, .c (boxes l)), (1, .c (.fn 271 [.vp [S s] 0])), (7, .c (I l.length)), (8, .c (I l.length)), (9, .c (.bool false))], o := [], n := x }
theorem impl_BoxNamed.index (h : slices_IndexFunc_impl_Box_impl_Box.k M) (h2 : impl_BoxNamed_1.k M) (l : List Box) (s : List UInt8) (hl : l.length ≤ 1048576) :
    run M 200 [.c (boxes l), .c (.fn 271 [.vp [S s] 0])] [] = some (.c (I (intO (named l s))), []) := by
  refine run_code (b := slices_IndexFunc_impl_Box_impl_Box.m) h ⟨l.length + 1, ?_⟩
  obtain ⟨g, hr⟩ := index_loop (f := exC (run M) (l.length + 1) slices_IndexFunc_impl_Box_impl_Box.l0) l.length (atP (fun b => decide (b.name = s)) l) (ixbS l s) 4 0 (ixbE l s) 0
    (fun i hi x c => by
      have hm := impl_BoxNamed_1.says h2 l[i] s
      rw [atP_at hi] at c
      rw [c] at hm
      simp only [encBox] at hm
      have e5 := wrap1 (i := i) (by omega)
      simp (maxSteps := 1000000) [slices_IndexFunc_impl_Box_impl_Box.l0, List.range_succ, bs_get, setAt, ixbS, hi, hm, encBox, e5])
    (fun i hi x c => by
      have hm := impl_BoxNamed_1.says h2 l[i] s
      rw [atP_at hi] at c
      rw [c] at hm
      simp only [encBox] at hm
      simp (maxSteps := 1000000) [slices_IndexFunc_impl_Box_impl_Box.l0, List.range_succ, bs_get, setAt, ixbS, hi, hm, encBox])
    (fun x => by simp (maxSteps := 1000000) [slices_IndexFunc_impl_Box_impl_Box.l0, List.range_succ, bs_get, setAt, ixbS, ixbE])
  rw [firstN_findIdx] at hr
  unfold named
  cases hm : l.findIdx? fun b => decide (b.name = s) with
  | none =>
    simp [ixbS, hm, finI, ixbE] at hr
    simp (maxSteps := 1000000) [exB, slices_IndexFunc_impl_Box_impl_Box.m, slices_IndexFunc_impl_Box_impl_Box.b, List.range_succ, bs_get, setAt, hr, intO]
  | some k =>
    simp [ixbS, hm, finI] at hr
    simp (maxSteps := 1000000) [exB, slices_IndexFunc_impl_Box_impl_Box.m, slices_IndexFunc_impl_Box_impl_Box.b, List.range_succ, bs_get, setAt, hr, intO]
theorem impl_BoxNamed.says (h : impl_BoxNamed.k M) (st : Store) (s : List UInt8) (hb : st.boxes.length ≤ 1048576) : run M 228 [.a (encStore st), .c (S s)] [] = some (.c (I (intO (named st.boxes s))), []) := by
  have h1 := impl_BoxNamed.index h.2.1 h.2.2 st.boxes s hb
  refine run_code (b := impl_BoxNamed.m) h.1 ⟨0, ?_⟩
  simp (maxSteps := 1000000) [exB, impl_BoxNamed.m, impl_BoxNamed.b, List.range_succ, bs_get, setAt, h1]
def lateM (time : Int) (m : Mail) : Bool := m.flags.any fun r => decide (time < r.time)
def late (b : Box) (time : Int) : Bool := decide (time < b.time) || b.mails.any (lateM time)
def ltS (b : Box) (time : Int) (i : Nat) (x : Nat × Nat) : St := { t := [(1, .c (I time)), (2, .c (.ptr 2 x.1 0 0)), (10, .c (mails b.mails)), (11, .c (I b.mails.length)), (12, .c (I i))], o := [(2, ⟨x.1, 7, true, true, [encBox b]⟩)], n := x.2 }
def ltE (b : Box) (time : Int) (x : Nat × Nat) : St := { t := [(1, .c (I time)), (2, .c (.ptr 2 x.1 0 0)), (10, .c (mails b.mails)), (11, .c (I b.mails.length)), (12, .c (I b.mails.length)), (13, .c (.bool false))], o := [(2, ⟨x.1, 7, true, true, [encBox b]⟩)], n := x.2 }
def lt1S (b : Box) (time : Int) (i : Nat) (l : List Reg) (k : Nat) (x : Nat × Nat) : St := { t := [(1, .c (I time)), (2, .c (.ptr 2 x.1 0 0)), (10, .c (mails b.mails)), (11, .c (I b.mails.length)), (12, .c (I i)), (17, .c (regs l)), (18, .c (I l.length)), (19, .c (I k))], o := [(2, ⟨x.1, 7, true, true, [encBox b]⟩)], n := x.2 }
def lt1E (b : Box) (time : Int) (i : Nat) (l : List Reg) (x : Nat × Nat) : St := { t := [(1, .c (I time)), (2, .c (.ptr 2 x.1 0 0)), (10, .c (mails b.mails)), (11, .c (I b.mails.length)), (12, .c (I i)), (17, .c (regs l)), (18, .c (I l.length)), (19, .c (I l.length)), (20, .c (.bool false))], o := [(2, ⟨x.1, 7, true, true, [encBox b]⟩)], n := x.2 }
theorem any_none {α : Type} {p : α → Bool} {l : List α} (h : l.any p = false) : firstN (atP p l) l.length = none := by
  have := firstN_any p l
  rw [h] at this; simpa using this
theorem any_some {α : Type} {p : α → Bool} {l : List α} (h : l.any p = true) : ∃ k, firstN (atP p l) l.length = some k := by
  have := firstN_any p l
  rw [h] at this; exact Option.isSome_iff_exists.1 this
theorem impl_isLate.inner (b : Box) (time : Int) (i K : Nat) (l : List Reg) (hl : l.length ≤ 1048576) : ∃ g : Nat × Nat → (Nat × Nat) × Nat, ∀ x, loopN (exC (run M) K impl_isLate.l1) (l.length + 1) (lt1S b time i l 0 x) = some (fin1 4 (.bool true) 2 (lt1E b time i l) (firstN (atP (fun r => decide (time < r.time)) l) l.length) (g x)) :=
  early_loop l.length (atP (fun r => decide (time < r.time)) l) (lt1S b time i l) 4 (.bool true) 2 (lt1E b time i l)
    (fun i hi x c => by
      obtain ⟨v, x⟩ := x
      rw [atP_at hi, decide_eq_false_iff_not] at c
      have e5 := wrap1 (i := i) (by omega)
      simp only [Prod.exists]
      simp (maxSteps := 1000000) [impl_isLate.l1, List.range_succ, bs_get, setAt, lt1S, hi, c, encReg, e5])
    (fun i hi x c => by
      obtain ⟨v, x⟩ := x
      rw [atP_at hi, decide_eq_true_eq] at c
      simp (maxSteps := 1000000) [impl_isLate.l1, List.range_succ, bs_get, setAt, lt1S, hi, c, encReg])
    (fun x => by
      obtain ⟨v, x⟩ := x
      simp only [Prod.exists]
      simp (maxSteps := 1000000) [impl_isLate.l1, List.range_succ, bs_get, setAt, lt1S, lt1E])
theorem impl_isLate.says (h : impl_isLate.k M) (b : Box) (time : Int) (hb : b.mails.length ≤ 1048576) (hf : ∀ m ∈ b.mails, m.flags.length ≤ 1048576) : run M 229 [.a (encBox b), .c (I time)] [] = some (.c (.bool (late b time)), []) := by
  refine run_code (b := impl_isLate.m) h ⟨b.mails.length + 1048577, ?_⟩
  obtain ⟨K, hK⟩ : ∃ K, b.mails.length + 1048577 = K := ⟨_, rfl⟩
  rw [hK]
  obtain ⟨g, hr⟩ := early_loop (f := exC (run M) K impl_isLate.l0) b.mails.length (atP (lateM time) b.mails) (ltS b time) 4 (.bool true) 0 (ltE b time)
    (fun i hi x c => by
      obtain ⟨v, x⟩ := x
      rw [atP_at hi, lateM] at c
      have e5 := wrap1 (i := i) (by omega)
      have hfl := hf _ (List.getElem_mem hi)
      obtain ⟨g, hr⟩ := impl_isLate.inner (M := M) b time i K b.mails[i].flags hfl
      rw [any_none c] at hr
      have hr2 := fun x => loopN_le (hr x) (show b.mails[i].flags.length + 1 ≤ K by omega)
      simp [lt1S, lt1E, fin1] at hr2
      simp only [Prod.exists]
      simp (maxSteps := 1000000) [impl_isLate.l0, List.range_succ, bs_get, setAt, ltS, hi, encMail, e5, hr2])
    (fun i hi x c => by
      obtain ⟨v, x⟩ := x
      rw [atP_at hi, lateM] at c
      have hfl := hf _ (List.getElem_mem hi)
      obtain ⟨g, hr⟩ := impl_isLate.inner (M := M) b time i K b.mails[i].flags hfl
      obtain ⟨k, hk⟩ := any_some c
      rw [hk] at hr
      have hr2 := fun x => loopN_le (hr x) (show b.mails[i].flags.length + 1 ≤ K by omega)
      simp [lt1S, fin1] at hr2
      simp (maxSteps := 1000000) [impl_isLate.l0, List.range_succ, bs_get, setAt, ltS, hi, encMail, hr2])
    (fun x => by
      obtain ⟨v, x⟩ := x
      simp only [Prod.exists]
      simp (maxSteps := 1000000) [impl_isLate.l0, List.range_succ, bs_get, setAt, ltS, ltE])
  have hr2 := fun x => loopN_le (hr x) (show b.mails.length + 1 ≤ K by omega)
  unfold late
  cases c : b.mails.any (lateM time)
  · rw [any_none c] at hr2
    simp [ltS, ltE, fin1] at hr2
    simp (maxSteps := 1000000) [exB, impl_isLate.m, impl_isLate.b, List.range_succ, bs_get, setAt, hr2]
  · obtain ⟨k, hk⟩ := any_some c
    rw [hk] at hr2
    simp [ltS, fin1] at hr2
    simp (maxSteps := 1000000) [exB, impl_isLate.m, impl_isLate.b, List.range_succ, bs_get, setAt, hr2]
def st0S (b : Box) (time : Int) (i : Nat) (x : Nat × Nat) : St := { t := [(1, .c (I time)), (2, .c (.ptr 2 x.1 0 0)), (5, .c (I i))], o := [(2, ⟨x.1, 7, true, true, [encBox b]⟩)], n := x.2 }
def st0E (b : Box) (time : Int) (x : Nat × Nat) : St := { t := [(1, .c (I time)), (2, .c (.ptr 2 x.1 0 0)), (5, .c (I b.mails.length)), (16, .c (.bool false))], o := [(2, ⟨x.1, 7, true, true, [encBox b]⟩)], n := x.2 }
def st1S (b : Box) (time : Int) (i : Nat) (k : Nat) (x : Nat × Nat) : St := { t := [(1, .c (I time)), (2, .c (.ptr 2 x.1 0 0)), (5, .c (I i)), (6, .c (I k))], o := [(2, ⟨x.1, 7, true, true, [encBox b]⟩)], n := x.2 }
def st1E (b : Box) (time : Int) (i : Nat) (k : Nat) (x : Nat × Nat) : St := { t := [(1, .c (I time)), (2, .c (.ptr 2 x.1 0 0)), (5, .c (I i)), (6, .c (I k)), (27, .c (.bool false))], o := [(2, ⟨x.1, 7, true, true, [encBox b]⟩)], n := x.2 }
theorem spec_l07Times.inner (b : Box) (time : Int) (i K : Nat) (hi : i < b.mails.length) (hl : b.mails[i].flags.length ≤ 1048576) : ∃ g : Nat × Nat → (Nat × Nat) × Nat, ∀ x, loopN (exC (run M) K spec_l07Times.l1) (b.mails[i].flags.length + 1) (st1S b time i 0 x) = some (fin1 4 (.bool false) 2 (st1E b time i b.mails[i].flags.length) (firstN (atP (fun r => decide (time < r.time)) b.mails[i].flags) b.mails[i].flags.length) (g x)) :=
  early_loop b.mails[i].flags.length (atP (fun r => decide (time < r.time)) b.mails[i].flags) (st1S b time i) 4 (.bool false) 2 (st1E b time i b.mails[i].flags.length)
    (fun k hk x c => by
      obtain ⟨v, x⟩ := x
      rw [atP_at hk, decide_eq_false_iff_not] at c
      have e5 := wrap1 (i := k) (by omega)
      simp only [Prod.exists]
      simp (maxSteps := 1000000) [spec_l07Times.l1, List.range_succ, bs_get, setAt, st1S, hi, hk, c, encReg, encMail, e5])
    (fun k hk x c => by
      obtain ⟨v, x⟩ := x
      rw [atP_at hk, decide_eq_true_eq] at c
      simp (maxSteps := 1000000) [spec_l07Times.l1, List.range_succ, bs_get, setAt, st1S, hi, hk, c, encReg, encMail])
    (fun x => by
      obtain ⟨v, x⟩ := x
      simp only [Prod.exists]
      simp (maxSteps := 1000000) [spec_l07Times.l1, List.range_succ, bs_get, setAt, st1S, st1E, hi, encMail])
theorem spec_l07Times.says (h : spec_l07Times.k M) (b : Box) (time : Int) (hb : b.mails.length ≤ 1048576) (hf : ∀ m ∈ b.mails, m.flags.length ≤ 1048576) : run M 227 [.a (encBox b), .c (I time)] [] = some (.c (.bool (!late b time)), []) := by
  refine run_code (b := spec_l07Times.m) h ⟨b.mails.length + 1048577, ?_⟩
  obtain ⟨K, hK⟩ : ∃ K, b.mails.length + 1048577 = K := ⟨_, rfl⟩
  rw [hK]
  obtain ⟨g, hr⟩ := early_loop (f := exC (run M) K spec_l07Times.l0) b.mails.length (atP (lateM time) b.mails) (st0S b time) 4 (.bool false) 0 (st0E b time)
    (fun i hi x c => by
      obtain ⟨v, x⟩ := x
      rw [atP_at hi, lateM] at c
      have e5 := wrap1 (i := i) (by omega)
      have hfl := hf _ (List.getElem_mem hi)
      obtain ⟨g, hr⟩ := spec_l07Times.inner (M := M) b time i K hi hfl
      rw [any_none c] at hr
      have hr2 := fun x => loopN_le (hr x) (show b.mails[i].flags.length + 1 ≤ K by omega)
      simp [st1S, st1E, fin1] at hr2
      simp only [Prod.exists]
      simp (maxSteps := 1000000) [spec_l07Times.l0, List.range_succ, bs_get, setAt, st0S, hi, encMail, e5, hr2])
    (fun i hi x c => by
      obtain ⟨v, x⟩ := x
      rw [atP_at hi, lateM] at c
      have hfl := hf _ (List.getElem_mem hi)
      obtain ⟨g, hr⟩ := spec_l07Times.inner (M := M) b time i K hi hfl
      obtain ⟨k, hk⟩ := any_some c
      rw [hk] at hr
      have hr2 := fun x => loopN_le (hr x) (show b.mails[i].flags.length + 1 ≤ K by omega)
      simp [st1S, fin1] at hr2
      simp (maxSteps := 1000000) [spec_l07Times.l0, List.range_succ, bs_get, setAt, st0S, hi, encMail, hr2])
    (fun x => by
      obtain ⟨v, x⟩ := x
      simp only [Prod.exists]
      simp (maxSteps := 1000000) [spec_l07Times.l0, List.range_succ, bs_get, setAt, st0S, st0E])
  have hr2 := fun x => loopN_le (hr x) (show b.mails.length + 1 ≤ K by omega)
  unfold late
  by_cases c0 : time < b.time
  · simp (maxSteps := 1000000) [exB, spec_l07Times.m, spec_l07Times.b, List.range_succ, bs_get, setAt, c0]
  cases c : b.mails.any (lateM time)
  · rw [any_none c] at hr2
    simp [st0S, st0E, fin1] at hr2
    simp (maxSteps := 1000000) [exB, spec_l07Times.m, spec_l07Times.b, List.range_succ, bs_get, setAt, hr2, c0]
  · obtain ⟨k, hk⟩ := any_some c
    rw [hk] at hr2
    simp [st0S, fin1] at hr2
    simp (maxSteps := 1000000) [exB, spec_l07Times.m, spec_l07Times.b, List.range_succ, bs_get, setAt, hr2, c0]
end Mx

namespace Mx
open Go
variable {M : Nat → Option Body}
def gidsOf (b : Box) : List Int := b.mails.map (·.gid)
def seenAt (s : Store) (i : Nat) : List Int := (s.boxes.take i).flatMap gidsOf
theorem seenAt_succ {s : Store} {i : Nat} (h : i < s.boxes.length) : seenAt s (i + 1) = seenAt s i ++ gidsOf s.boxes[i] := by
  rw [seenAt, seenAt, List.take_succ_eq_append_getElem h, List.flatMap_append]; simp
def dupAt (seen l : List Int) (k : Nat) : Bool := match l[k]? with
  | some g => decide (g ∈ seen ++ l.take k)
  | none => false
theorem dupAt_at {seen l : List Int} {k : Nat} (h : k < l.length) : dupAt seen l k = decide (l[k] ∈ seen ++ l.take k) := by simp [dupAt, h]
def dups (seen l : List Int) : Bool := (firstN (dupAt seen l) l.length).isSome
def badBox (s : Store) (i : Nat) : Bool := match s.boxes[i]? with
  | some b => !boxOk b || (decide (0 < i) && match s.boxes[i - 1]? with | some p => decide (b.gid ≤ p.gid) | none => false) || !decide (intO (named s.boxes b.name) = (i : Int)) || decide (b.gid ∈ s.gone) || late b s.time
  | none => false
theorem badBox_at {s : Store} {i : Nat} (h : i < s.boxes.length) : badBox s i = (!boxOk s.boxes[i] || (decide (0 < i) && decide (s.boxes[i].gid ≤ s.boxes[i - 1].gid)) || !decide (intO (named s.boxes s.boxes[i].name) = (i : Int)) ||
    decide (s.boxes[i].gid ∈ s.gone) || late s.boxes[i] s.time) := by simp [badBox, h, (show i - 1 < s.boxes.length by omega)]
def badAt (s : Store) (i : Nat) : Bool := badBox s i || match s.boxes[i]? with
  | some b => dups (seenAt s i) (gidsOf b)
  | none => false
theorem badAt_at {s : Store} {i : Nat} (h : i < s.boxes.length) : badAt s i = (badBox s i || dups (seenAt s i) (gidsOf s.boxes[i])) := by simp [badAt, h]
def storeOk (s : Store) : Bool := inR 1 s.who 2 && inR 0 s.time 100000 && decide (s.boxes.length ≤ 5) && gidsOk s.gone 20 && (firstN (badAt s) s.boxes.length).isNone
/-- small enough to be walked -/
structure BoxIn (b : Box) : Prop where
  m : b.mails.length ≤ 1048576
  g : b.gone.length ≤ 1048576
  n : b.name.length ≤ 1048576
  f : ∀ m ∈ b.mails, m.flags.length ≤ 1048576
structure StoreIn (s : Store) : Prop where
  b : s.boxes.length ≤ 1048576
  g : s.gone.length ≤ 1048576
  i : ∀ b ∈ s.boxes, BoxIn b
  s : (s.boxes.flatMap gidsOf).length ≤ 1048576
theorem seenAt_le {s : Store} (h : StoreIn s) (i : Nat) : (seenAt s i).length ≤ 1048576 := by
  refine Nat.le_trans ?_ h.s
  conv => rhs; rw [← List.take_append_drop i s.boxes]
  rw [List.flatMap_append, List.length_append]
  exact Nat.le_add_right _ _
def soO (s : Store) (seen : List Int) (x : Nat × Nat × Nat) : List (Nat × Ob) := [(1, ⟨x.1, 4, true, true, [encStore s]⟩), (30, ⟨x.2.1, 1, true, false, irow seen⟩)]
def so0S (s : Store) (i : Nat) (x : Nat × Nat × Nat) : St := { t := [(1, .c (.ptr 1 x.1 0 0)), (3, .c (.row 30 x.2.1 0 (seenAt s i).length)), (32, .c (boxes s.boxes)), (33, .c (I s.boxes.length)), (34, .c (I i))], o := soO s (seenAt s i) x, n := x.2.2 }
def so0E (s : Store) (x : Nat × Nat × Nat) : St := { t := [(1, .c (.ptr 1 x.1 0 0)), (3, .c (.row 30 x.2.1 0 (seenAt s s.boxes.length).length)), (32, .c (boxes s.boxes)), (33, .c (I s.boxes.length)), (34, .c (I s.boxes.length)), (35, .c (.bool false))], o := soO s (seenAt s s.boxes.length) x, n := x.2.2 }
def so1S (s : Store) (b : Box) (seen : List Int) (i k : Nat) (x : Nat × Nat × Nat) : St := { t := [(1, .c (.ptr 1 x.1 0 0)), (3, .c (.row 30 x.2.1 0 (seen.length + k))), (32, .c (boxes s.boxes)), (33, .c (I s.boxes.length)), (34, .c (I i)), (80, .c (mails b.mails)), (81, .c (I b.mails.length)), (82, .c (I k))], o := soO s (seen ++ (gidsOf b).take k) x, n := x.2.2 }
def so1E (s : Store) (b : Box) (seen : List Int) (i : Nat) (x : Nat × Nat × Nat) : St := { t := [(1, .c (.ptr 1 x.1 0 0)), (3, .c (.row 30 x.2.1 0 (seen.length + b.mails.length))), (32, .c (boxes s.boxes)), (33, .c (I s.boxes.length)), (34, .c (I i)), (80, .c (mails b.mails)), (81, .c (I b.mails.length)), (82, .c (I b.mails.length)), (83, .c (.bool false))], o := soO s (seen ++ gidsOf b) x, n := x.2.2 }
theorem gidsOf_len (b : Box) : (gidsOf b).length = b.mails.length := by simp [gidsOf]
theorem gidsOf_at (b : Box) (k : Nat) (h : k < (gidsOf b).length) : (gidsOf b)[k] = (b.mails[k]'(by simpa [gidsOf] using h)).gid := by simp [gidsOf]
theorem impl_StoreOk.inner (hin : slices_Contains_int_int.k M) (s : Store) (b : Box) (seen : List Int) (i K : Nat) (hl : b.mails.length ≤ 1048576) (hs : seen.length ≤ 1048576) :
    ∃ g : Nat × Nat × Nat → (Nat × Nat × Nat) × Nat, ∀ x, loopN (exC (run M) K impl_StoreOk.l1) (b.mails.length + 1) (so1S s b seen i 0 x) = some (fin1 2 (.bool false) 2 (so1E s b seen i) (firstN (dupAt seen (gidsOf b)) b.mails.length) (g x)) :=
  early_loop b.mails.length (dupAt seen (gidsOf b)) (so1S s b seen i) 2 (.bool false) 2 (so1E s b seen i)
    (fun k hk x c => by
      obtain ⟨v, w, x⟩ := x
      have hk' : k < (gidsOf b).length := by rw [gidsOf_len]; exact hk
      rw [dupAt_at hk'] at c
      have hlen : (seen ++ (gidsOf b).take k).length = seen.length + k := by rw [List.length_append, List.length_take, Nat.min_eq_left (by omega)]
      have h1 := slices_Contains_int_int.says hin (seen ++ (gidsOf b).take k) (gidsOf b)[k] (by rw [hlen]; omega)
      rw [c] at h1
      rw [gidsOf_at] at h1
      simp only [ints] at h1
      have e5 := wrap1 (i := k) (by omega)
      have e6 : seen.length + (k + 1) ≤ 4294967296 := by omega
      have e7 : seen ++ (gidsOf b).take (k + 1) = (seen ++ (gidsOf b).take k) ++ [b.mails[k].gid] := by rw [List.take_succ_eq_append_getElem hk', gidsOf_at, List.append_assoc]
      have e8 : irow ((seen ++ (gidsOf b).take k) ++ [b.mails[k].gid]) = irow (seen ++ (gidsOf b).take k) ++ [[I b.mails[k].gid]] := by simp [irow]
      have e9 : (irow (seen ++ (gidsOf b).take k)).length = seen.length + k := by simp only [irow, List.length_map]; exact hlen
      simp only [Prod.exists, so1S, soO, e7, e8]
      generalize irow (seen ++ (gidsOf b).take k) = rr at *
      simp (maxSteps := 1000000) [impl_StoreOk.l1, List.range_succ, bs_get, setAt, hk, h1, encMail, e5, e6, e9, List.take_of_length_le, Nat.add_assoc])
    (fun k hk x c => by
      obtain ⟨v, w, x⟩ := x
      have hk' : k < (gidsOf b).length := by rw [gidsOf_len]; exact hk
      rw [dupAt_at hk'] at c
      have hlen : (seen ++ (gidsOf b).take k).length = seen.length + k := by rw [List.length_append, List.length_take, Nat.min_eq_left (by omega)]
      have h1 := slices_Contains_int_int.says hin (seen ++ (gidsOf b).take k) (gidsOf b)[k] (by rw [hlen]; omega)
      rw [c] at h1
      rw [gidsOf_at] at h1
      simp only [ints] at h1
      have e9 : (irow (seen ++ (gidsOf b).take k)).length = seen.length + k := by simp only [irow, List.length_map]; exact hlen
      simp only [so1S, soO]
      generalize irow (seen ++ (gidsOf b).take k) = rr at *
      simp (maxSteps := 1000000) [impl_StoreOk.l1, List.range_succ, bs_get, setAt, hk, h1, encMail, e9, List.take_of_length_le])
    (fun x => by
      obtain ⟨v, w, x⟩ := x
      have e7 : (gidsOf b).take b.mails.length = gidsOf b := List.take_of_length_le (by rw [gidsOf_len]; omega)
      simp only [Prod.exists, so1S, so1E, soO, e7]
      simp (maxSteps := 1000000) [impl_StoreOk.l1, List.range_succ, bs_get, setAt])
theorem BoxIn.ok {b : Box} (h : BoxIn b) : b.mails.length ≤ 1048576 ∧ b.gone.length ≤ 4611686018427387904 ∧ b.name.length ≤ 4611686018427387904 ∧ ∀ m ∈ b.mails, m.flags.length ≤ 1048576 := ⟨h.m, by have := h.g; omega, by have := h.n; omega, h.f⟩
structure impl_StoreOk.ks (M : Nat → Option Body) : Prop where
  box : impl_BoxOk.k M
  con : slices_Contains_int_int.k M
  nam : impl_BoxNamed.k M
  lat : impl_isLate.k M
theorem impl_StoreOk.good (h : impl_StoreOk.ks M) (s : Store) (hs : StoreIn s) (K : Nat) (hK : 2000000 ≤ K) (i : Nat) (hi : i < s.boxes.length) (x : Nat × Nat × Nat) (c : badAt s i = false) :
    ∃ y, exC (run M) K impl_StoreOk.l0 (so0S s i x) = some (.normal, so0S s (i + 1) y) := by
  have hb := hs.i _ (List.getElem_mem hi)
  have h1 := impl_BoxOk.says h.box s.boxes[i] hb.ok.1 hb.ok.2.1 hb.ok.2.2.1 hb.ok.2.2.2
  have h2 := impl_BoxNamed.says h.nam s s.boxes[i].name hs.b
  have h3 := slices_Contains_int_int.says h.con s.gone s.boxes[i].gid (by have := hs.g; omega)
  have h4 := impl_isLate.says h.lat s.boxes[i] s.time hb.m hb.f
  have hsl := seenAt_le hs i
  obtain ⟨g, hr⟩ := impl_StoreOk.inner h.con s s.boxes[i] (seenAt s i) i K hb.m hsl
  have hr2 := fun x => loopN_le (hr x) (show s.boxes[i].mails.length + 1 ≤ K by have := hb.m; omega)
  rw [badAt_at hi, badBox_at hi] at c
  simp only [Bool.or_eq_false_iff, Bool.and_eq_false_iff, Bool.not_eq_false', decide_eq_false_iff_not, decide_eq_true_eq] at c
  obtain ⟨⟨⟨⟨⟨c1, c2⟩, c3⟩, c4⟩, c5⟩, c6⟩ := c
  have e5 : IntKind.i64.wrap ((i : Int) + 1) = (i : Int) + 1 := wrap_i64 (by have := hs.b; omega) (by have := hs.b; omega)
  rw [c1] at h1
  rw [c3] at h2
  rw [decide_eq_false c4] at h3
  rw [c5] at h4
  have q : firstN (dupAt (seenAt s i) (gidsOf s.boxes[i])) s.boxes[i].mails.length = none := by
    unfold dups at c6; rw [gidsOf_len] at c6; simpa using c6
  rw [q] at hr2
  obtain ⟨v, w, x⟩ := x
  simp only [encBox, encStore] at h1 h2 h4
  simp only [ints] at h3
  have hz : irow (seenAt s i ++ gidsOf s.boxes[i]) = irow (seenAt s i) ++ irow (gidsOf s.boxes[i]) := by simp [irow]
  simp [so1S, so1E, soO, fin1] at hr2
  simp only [so0S, soO, seenAt_succ hi, Prod.exists]
  have hgl := gidsOf_len s.boxes[i]
  by_cases c7 : 0 < i
  · have e6 : IntKind.i64.wrap ((i : Int) - 1) = ((i - 1 : Nat) : Int) := by rw [wrap_i64 (by have := hs.b; omega) (by have := hs.b; omega)]; omega
    have c2' : ¬ s.boxes[i].gid ≤ s.boxes[i - 1].gid := by
      rcases c2 with c2 | c2
      · exact absurd c7 c2
      · exact c2
    simp (maxSteps := 1000000) [impl_StoreOk.l0, List.range_succ, bs_get, setAt, hi, h1, h2, h3, h4, c7, c2', e5, e6, hr2, hgl, encBox, (show i - 1 < s.boxes.length by omega)]
  · simp (maxSteps := 1000000) [impl_StoreOk.l0, List.range_succ, bs_get, setAt, hi, h1, h2, h3, h4, c7, e5, hr2, hgl, encBox]
theorem impl_StoreOk.bad (h : impl_StoreOk.ks M) (s : Store) (hs : StoreIn s) (K : Nat) (hK : 2000000 ≤ K) (i : Nat) (hi : i < s.boxes.length) (x : Nat × Nat × Nat) (c : badAt s i = true) :
    ∃ k, exC (run M) K impl_StoreOk.l0 (so0S s i x) = some (.ret, { t := [(2, .c (.bool false))], o := [], n := k }) := by
  have hb := hs.i _ (List.getElem_mem hi)
  have h1 := impl_BoxOk.says h.box s.boxes[i] hb.ok.1 hb.ok.2.1 hb.ok.2.2.1 hb.ok.2.2.2
  have h2 := impl_BoxNamed.says h.nam s s.boxes[i].name hs.b
  have h3 := slices_Contains_int_int.says h.con s.gone s.boxes[i].gid (by have := hs.g; omega)
  have h4 := impl_isLate.says h.lat s.boxes[i] s.time hb.m hb.f
  have hsl := seenAt_le hs i
  obtain ⟨g, hr⟩ := impl_StoreOk.inner h.con s s.boxes[i] (seenAt s i) i K hb.m hsl
  have hr2 := fun x => loopN_le (hr x) (show s.boxes[i].mails.length + 1 ≤ K by have := hb.m; omega)
  rw [badAt_at hi, badBox_at hi] at c
  obtain ⟨v, w, x⟩ := x
  simp only [encBox, encStore] at h1 h2 h4
  simp only [ints] at h3
  simp only [so0S, soO]
  cases c1 : boxOk s.boxes[i]
  · rw [c1] at h1
    simp (maxSteps := 1000000) [impl_StoreOk.l0, List.range_succ, bs_get, setAt, hi, h1, encBox]
  rw [c1] at h1
  have tail : ∀ (hp : ¬ 0 < i ∨ ¬ s.boxes[i].gid ≤ s.boxes[i - 1].gid), ∃ k, exC (run M) K impl_StoreOk.l0 { t := [(1, .c (.ptr 1 v 0 0)), (3, .c (.row 30 w 0 (seenAt s i).length)), (32, .c (boxes s.boxes)), (33, .c (I s.boxes.length)), (34, .c (I i))], o := [(1, ⟨v, 4, true, true, [encStore s]⟩), (30, ⟨w, 1, true, false, irow (seenAt s i)⟩)], n := x } = some (.ret, { t := [(2, .c (.bool false))], o := [], n := k }) := by
    intro hp
    have hpp : (decide (0 < i) && decide (s.boxes[i].gid ≤ s.boxes[i - 1].gid)) = false := by
      rcases hp with hp | hp <;> simp [hp]
    have key : (∀ (Q : Prop), (0 < i → ¬ s.boxes[i].gid ≤ s.boxes[i - 1].gid → Q) → (¬ 0 < i → Q) → Q) := by
      intro Q q1 q2
      by_cases c7 : 0 < i
      · rcases hp with hp | hp
        · exact absurd c7 hp
        · exact q1 c7 hp
      · exact q2 c7
    have e6 : 0 < i → IntKind.i64.wrap ((i : Int) - 1) = ((i - 1 : Nat) : Int) := fun c7 => by rw [wrap_i64 (by have := hs.b; omega) (by have := hs.b; omega)]; omega
    have hi1 : i - 1 < s.boxes.length := by omega
    by_cases c3 : intO (named s.boxes s.boxes[i].name) = (i : Int)
    rotate_left
    · exact key _ (fun c7 c2 => by simp (maxSteps := 1000000) [impl_StoreOk.l0, List.range_succ, bs_get, setAt, hi, h1, h2, c7, c2, c3, e6 c7, encBox, hi1]) (fun c7 => by simp (maxSteps := 1000000) [impl_StoreOk.l0, List.range_succ, bs_get, setAt, hi, h1, h2, c7, c3, encBox])
    rw [c3] at h2
    by_cases c4 : s.boxes[i].gid ∈ s.gone
    · rw [decide_eq_true c4] at h3
      exact key _ (fun c7 c2 => by simp (maxSteps := 1000000) [impl_StoreOk.l0, List.range_succ, bs_get, setAt, hi, h1, h2, h3, c7, c2, c3, e6 c7, encBox, hi1]) (fun c7 => by simp (maxSteps := 1000000) [impl_StoreOk.l0, List.range_succ, bs_get, setAt, hi, h1, h2, h3, c7, c3, encBox])
    rw [decide_eq_false c4] at h3
    cases c5 : late s.boxes[i] s.time
    rotate_left
    · rw [c5] at h4
      exact key _ (fun c7 c2 => by simp (maxSteps := 1000000) [impl_StoreOk.l0, List.range_succ, bs_get, setAt, hi, h1, h2, h3, h4, c7, c2, c3, e6 c7, encBox, hi1]) (fun c7 => by simp (maxSteps := 1000000) [impl_StoreOk.l0, List.range_succ, bs_get, setAt, hi, h1, h2, h3, h4, c7, c3, encBox])
    rw [c5] at h4
    have c6 : dups (seenAt s i) (gidsOf s.boxes[i]) = true := by
      rw [c1, hpp, c3, c5] at c
      simpa [c4] using c
    obtain ⟨k, hk⟩ : ∃ k, firstN (dupAt (seenAt s i) (gidsOf s.boxes[i])) s.boxes[i].mails.length = some k := by
      unfold dups at c6; rw [gidsOf_len] at c6; exact Option.isSome_iff_exists.1 c6
    rw [hk] at hr2
    simp [so1S, soO, fin1] at hr2
    have hgl := gidsOf_len s.boxes[i]
    exact key _ (fun c7 c2 => by simp (maxSteps := 1000000) [impl_StoreOk.l0, List.range_succ, bs_get, setAt, hi, h1, h2, h3, h4, c7, c2, c3, e6 c7, hr2, encBox, hi1]) (fun c7 => by simp (maxSteps := 1000000) [impl_StoreOk.l0, List.range_succ, bs_get, setAt, hi, h1, h2, h3, h4, c7, c3, hr2, encBox])
  by_cases c7 : 0 < i
  · by_cases c2 : s.boxes[i].gid ≤ s.boxes[i - 1].gid
    · have e6 : IntKind.i64.wrap ((i : Int) - 1) = ((i - 1 : Nat) : Int) := by rw [wrap_i64 (by have := hs.b; omega) (by have := hs.b; omega)]; omega
      simp (maxSteps := 1000000) [impl_StoreOk.l0, List.range_succ, bs_get, setAt, hi, h1, c7, c2, e6, encBox, (show i - 1 < s.boxes.length by omega)]
    · exact tail (.inr c2)
  · exact tail (.inl c7)
theorem impl_StoreOk.says (h : impl_StoreOk.k M) (s : Store) (hs : StoreIn s) : run M 150 [.a (encStore s)] [] = some (.c (.bool (storeOk s)), []) := by
  obtain ⟨h0, k1, k2, k3, k4, k5, k6⟩ := h
  have h1 := impl_within.inR k2 s.who 1 2
  have h2 := impl_within.inR k2 s.time 0 100000
  have h3 := impl_areGids.says k4 s.gone 20 (by have := hs.g; omega)
  refine run_code (b := impl_StoreOk.m) h0 ⟨4000000, ?_⟩
  obtain ⟨K, hK⟩ : ∃ K, 4000000 = K := ⟨_, rfl⟩
  rw [hK]
  obtain ⟨g, hr⟩ := early_loop (f := exC (run M) K impl_StoreOk.l0) s.boxes.length (badAt s) (so0S s) 2 (.bool false) 0 (so0E s)
    (fun i hi x c => impl_StoreOk.good ⟨k1, k3, k5, k6⟩ s hs K (by omega) i hi x c)
    (fun i hi x c => impl_StoreOk.bad ⟨k1, k3, k5, k6⟩ s hs K (by omega) i hi x c)
    (fun x => by
      obtain ⟨v, w, x⟩ := x
      simp only [Prod.exists]
      simp (maxSteps := 1000000) [impl_StoreOk.l0, List.range_succ, bs_get, setAt, so0S, so0E, soO])
  have hr2 := fun x => loopN_le (hr x) (show s.boxes.length + 1 ≤ K by have := hs.b; omega)
  cases c1 : inR 1 s.who 2
  · simp (maxSteps := 1000000) [exB, impl_StoreOk.m, impl_StoreOk.b, List.range_succ, bs_get, setAt, h1, c1, storeOk]
  cases c2 : inR 0 s.time 100000
  · simp (maxSteps := 1000000) [exB, impl_StoreOk.m, impl_StoreOk.b, List.range_succ, bs_get, setAt, h1, h2, c1, c2, storeOk]
  by_cases c3 : 5 < s.boxes.length
  · have c3' : ¬ s.boxes.length ≤ 5 := by omega
    have ci : (5 : Int) < s.boxes.length := by omega
    simp (maxSteps := 1000000) [exB, impl_StoreOk.m, impl_StoreOk.b, List.range_succ, bs_get, setAt, h1, h2, c1, c2, c3', ci, storeOk]
  have c3' : s.boxes.length ≤ 5 := by omega
  have ci : ¬ (5 : Int) < s.boxes.length := by omega
  cases c4 : gidsOk s.gone 20
  · simp (maxSteps := 1000000) [exB, impl_StoreOk.m, impl_StoreOk.b, List.range_succ, bs_get, setAt, h1, h2, h3, c1, c2, ci, c4, storeOk]
  have hz : seenAt s 0 = [] := by simp [seenAt]
  cases q : firstN (badAt s) s.boxes.length with
  | none =>
    simp [so0S, so0E, soO, q, fin1, hz, irow] at hr2
    simp (maxSteps := 1000000) [exB, impl_StoreOk.m, impl_StoreOk.b, List.range_succ, bs_get, setAt, h1, h2, h3, c1, c2, c3', ci, c4, hr2, storeOk, q]
  | some k =>
    simp [so0S, soO, q, fin1, hz, irow] at hr2
    simp (maxSteps := 1000000) [exB, impl_StoreOk.m, impl_StoreOk.b, List.range_succ, bs_get, setAt, h1, h2, h3, c1, c2, c3', ci, c4, hr2, storeOk, q]
def spO (s : Store) (seen : List Int) (x : Nat × Nat × Nat) : List (Nat × Ob) := [(1, ⟨x.1, 4, true, true, [encStore s]⟩), (29, ⟨x.2.1, 1, true, false, irow seen⟩)]
def sp0S (s : Store) (i : Nat) (x : Nat × Nat × Nat) : St := { t := [(1, .c (.ptr 1 x.1 0 0)), (3, .c (.row 29 x.2.1 0 (seenAt s i).length)), (4, .c (I i))], o := spO s (seenAt s i) x, n := x.2.2 }
def sp0E (s : Store) (x : Nat × Nat × Nat) : St := { t := [(1, .c (.ptr 1 x.1 0 0)), (3, .c (.row 29 x.2.1 0 (seenAt s s.boxes.length).length)), (4, .c (I s.boxes.length)), (34, .c (.bool false))], o := spO s (seenAt s s.boxes.length) x, n := x.2.2 }
def sp1O (s : Store) (b : Box) (seen : List Int) (x : Nat × Nat × Nat × Nat) : List (Nat × Ob) := [(1, ⟨x.1, 4, true, true, [encStore s]⟩), (5, ⟨x.2.2.1, 7, true, true, [encBox b]⟩), (29, ⟨x.2.1, 1, true, false, irow seen⟩)]
def sp1S (s : Store) (b : Box) (seen : List Int) (i k : Nat) (x : Nat × Nat × Nat × Nat) : St := { t := [(1, .c (.ptr 1 x.1 0 0)), (3, .c (.row 29 x.2.1 0 (seen.length + k))), (4, .c (I i)), (5, .c (.ptr 5 x.2.2.1 0 0)), (6, .c (I k))], o := sp1O s b (seen ++ (gidsOf b).take k) x, n := x.2.2.2 }
def sp1E (s : Store) (b : Box) (seen : List Int) (i : Nat) (x : Nat × Nat × Nat × Nat) : St := { t := [(1, .c (.ptr 1 x.1 0 0)), (3, .c (.row 29 x.2.1 0 (seen.length + b.mails.length))), (4, .c (I i)), (5, .c (.ptr 5 x.2.2.1 0 0)), (6, .c (I b.mails.length)), (87, .c (.bool false))], o := sp1O s b (seen ++ gidsOf b) x, n := x.2.2.2 }
theorem spec_StoreOk.inner (hin : spec_l06In.k M) (s : Store) (b : Box) (seen : List Int) (i K : Nat) (hl : b.mails.length ≤ 1048576) (hs : seen.length ≤ 1048576) :
    ∃ g : Nat × Nat × Nat × Nat → (Nat × Nat × Nat × Nat) × Nat, ∀ x, loopN (exC (run M) K spec_StoreOk.l1) (b.mails.length + 1) (sp1S s b seen i 0 x) = some (fin1 2 (.bool false) 2 (sp1E s b seen i) (firstN (dupAt seen (gidsOf b)) b.mails.length) (g x)) :=
  early_loop b.mails.length (dupAt seen (gidsOf b)) (sp1S s b seen i) 2 (.bool false) 2 (sp1E s b seen i)
    (fun k hk x c => by
      obtain ⟨v, w, z, x⟩ := x
      have hk' : k < (gidsOf b).length := by rw [gidsOf_len]; exact hk
      rw [dupAt_at hk'] at c
      have hlen : (seen ++ (gidsOf b).take k).length = seen.length + k := by rw [List.length_append, List.length_take, Nat.min_eq_left (by omega)]
      have h1 := spec_l06In.says hin (seen ++ (gidsOf b).take k) (gidsOf b)[k] (by rw [hlen]; omega)
      rw [c] at h1
      rw [gidsOf_at] at h1
      simp only [ints] at h1
      have e5 := wrap1 (i := k) (by omega)
      have e6 : seen.length + (k + 1) ≤ 4294967296 := by omega
      have e7 : seen ++ (gidsOf b).take (k + 1) = (seen ++ (gidsOf b).take k) ++ [b.mails[k].gid] := by rw [List.take_succ_eq_append_getElem hk', gidsOf_at, List.append_assoc]
      have e8 : irow ((seen ++ (gidsOf b).take k) ++ [b.mails[k].gid]) = irow (seen ++ (gidsOf b).take k) ++ [[I b.mails[k].gid]] := by simp [irow]
      have e9 : (irow (seen ++ (gidsOf b).take k)).length = seen.length + k := by simp only [irow, List.length_map]; exact hlen
      simp only [Prod.exists, sp1S, sp1O, e7, e8]
      generalize irow (seen ++ (gidsOf b).take k) = rr at *
      simp (maxSteps := 1000000) [spec_StoreOk.l1, List.range_succ, bs_get, setAt, hk, h1, encMail, e5, e6, e9, List.take_of_length_le, Nat.add_assoc]
      exact ⟨_, _, _, ⟨rfl, rfl, rfl⟩, rfl, rfl, rfl⟩)
    (fun k hk x c => by
      obtain ⟨v, w, z, x⟩ := x
      have hk' : k < (gidsOf b).length := by rw [gidsOf_len]; exact hk
      rw [dupAt_at hk'] at c
      have hlen : (seen ++ (gidsOf b).take k).length = seen.length + k := by rw [List.length_append, List.length_take, Nat.min_eq_left (by omega)]
      have h1 := spec_l06In.says hin (seen ++ (gidsOf b).take k) (gidsOf b)[k] (by rw [hlen]; omega)
      rw [c] at h1
      rw [gidsOf_at] at h1
      simp only [ints] at h1
      have e9 : (irow (seen ++ (gidsOf b).take k)).length = seen.length + k := by simp only [irow, List.length_map]; exact hlen
      simp only [sp1S, sp1O]
      generalize irow (seen ++ (gidsOf b).take k) = rr at *
      simp (maxSteps := 1000000) [spec_StoreOk.l1, List.range_succ, bs_get, setAt, hk, h1, encMail, e9, List.take_of_length_le])
    (fun x => by
      obtain ⟨v, w, z, x⟩ := x
      have e7 : (gidsOf b).take b.mails.length = gidsOf b := List.take_of_length_le (by rw [gidsOf_len]; omega)
      simp only [Prod.exists, sp1S, sp1E, sp1O, e7]
      simp (maxSteps := 1000000) [spec_StoreOk.l1, List.range_succ, bs_get, setAt]
      exact ⟨_, _, _, ⟨rfl, rfl, rfl⟩, rfl, rfl, rfl⟩)
structure spec_StoreOk.ks (M : Nat → Option Body) : Prop where
  box : spec_BoxOk.k M
  con : spec_l06In.k M
  nam : spec_BoxNamed.k M
  lat : spec_l07Times.k M
theorem spec_StoreOk.good (h : spec_StoreOk.ks M) (s : Store) (hs : StoreIn s) (K : Nat) (hK : 2000000 ≤ K) (i : Nat) (hi : i < s.boxes.length) (x : Nat × Nat × Nat) (c : badAt s i = false) :
    ∃ y, exC (run M) K spec_StoreOk.l0 (sp0S s i x) = some (.normal, sp0S s (i + 1) y) := by
  have hb := hs.i _ (List.getElem_mem hi)
  have h1 := spec_BoxOk.says h.box s.boxes[i] hb.ok.1 hb.ok.2.1 hb.ok.2.2.1 hb.ok.2.2.2
  have h2 := spec_BoxNamed.says h.nam s s.boxes[i].name hs.b
  have h3 := spec_l06In.says h.con s.gone s.boxes[i].gid (by have := hs.g; omega)
  have h4 := spec_l07Times.says h.lat s.boxes[i] s.time hb.m hb.f
  have hsl := seenAt_le hs i
  obtain ⟨g, hr⟩ := spec_StoreOk.inner h.con s s.boxes[i] (seenAt s i) i K hb.m hsl
  have hr2 := fun x => loopN_le (hr x) (show s.boxes[i].mails.length + 1 ≤ K by have := hb.m; omega)
  rw [badAt_at hi, badBox_at hi] at c
  simp only [Bool.or_eq_false_iff, Bool.and_eq_false_iff, Bool.not_eq_false', decide_eq_false_iff_not, decide_eq_true_eq] at c
  obtain ⟨⟨⟨⟨⟨c1, c2⟩, c3⟩, c4⟩, c5⟩, c6⟩ := c
  have e5 : IntKind.i64.wrap ((i : Int) + 1) = (i : Int) + 1 := wrap_i64 (by have := hs.b; omega) (by have := hs.b; omega)
  rw [c1] at h1
  rw [c3] at h2
  rw [decide_eq_false c4] at h3
  rw [c5] at h4
  have q : firstN (dupAt (seenAt s i) (gidsOf s.boxes[i])) s.boxes[i].mails.length = none := by
    unfold dups at c6; rw [gidsOf_len] at c6; simpa using c6
  rw [q] at hr2
  obtain ⟨v, w, x⟩ := x
  simp only [encBox, encStore] at h1 h2 h4
  simp only [ints] at h3
  have hz : irow (seenAt s i ++ gidsOf s.boxes[i]) = irow (seenAt s i) ++ irow (gidsOf s.boxes[i]) := by simp [irow]
  simp [sp1S, sp1E, sp1O, fin1] at hr2
  simp only [sp0S, spO, seenAt_succ hi, Prod.exists]
  have hgl := gidsOf_len s.boxes[i]
  by_cases c7 : 0 < i
  · have e6 : IntKind.i64.wrap ((i : Int) - 1) = ((i - 1 : Nat) : Int) := by rw [wrap_i64 (by have := hs.b; omega) (by have := hs.b; omega)]; omega
    have c2' : ¬ s.boxes[i].gid ≤ s.boxes[i - 1].gid := by
      rcases c2 with c2 | c2
      · exact absurd c7 c2
      · exact c2
    simp (maxSteps := 1000000) [spec_StoreOk.l0, List.range_succ, bs_get, setAt, hi, h1, h2, h3, h4, c7, c2', e5, e6, hr2, hgl, encBox, (show i - 1 < s.boxes.length by omega)]
  · simp (maxSteps := 1000000) [spec_StoreOk.l0, List.range_succ, bs_get, setAt, hi, h1, h2, h3, h4, c7, e5, hr2, hgl, encBox]
theorem spec_StoreOk.bad (h : spec_StoreOk.ks M) (s : Store) (hs : StoreIn s) (K : Nat) (hK : 2000000 ≤ K) (i : Nat) (hi : i < s.boxes.length) (x : Nat × Nat × Nat) (c : badAt s i = true) :
    ∃ k, exC (run M) K spec_StoreOk.l0 (sp0S s i x) = some (.ret, { t := [(2, .c (.bool false))], o := [], n := k }) := by
  have hb := hs.i _ (List.getElem_mem hi)
  have h1 := spec_BoxOk.says h.box s.boxes[i] hb.ok.1 hb.ok.2.1 hb.ok.2.2.1 hb.ok.2.2.2
  have h2 := spec_BoxNamed.says h.nam s s.boxes[i].name hs.b
  have h3 := spec_l06In.says h.con s.gone s.boxes[i].gid (by have := hs.g; omega)
  have h4 := spec_l07Times.says h.lat s.boxes[i] s.time hb.m hb.f
  have hsl := seenAt_le hs i
  obtain ⟨g, hr⟩ := spec_StoreOk.inner h.con s s.boxes[i] (seenAt s i) i K hb.m hsl
  have hr2 := fun x => loopN_le (hr x) (show s.boxes[i].mails.length + 1 ≤ K by have := hb.m; omega)
  rw [badAt_at hi, badBox_at hi] at c
  obtain ⟨v, w, x⟩ := x
  simp only [encBox, encStore] at h1 h2 h4
  simp only [ints] at h3
  simp only [sp0S, spO]
  cases c1 : boxOk s.boxes[i]
  · rw [c1] at h1
    simp (maxSteps := 1000000) [spec_StoreOk.l0, List.range_succ, bs_get, setAt, hi, h1, encBox]
  rw [c1] at h1
  have tail : ∀ (hp : ¬ 0 < i ∨ ¬ s.boxes[i].gid ≤ s.boxes[i - 1].gid), ∃ k, exC (run M) K spec_StoreOk.l0 { t := [(1, .c (.ptr 1 v 0 0)), (3, .c (.row 29 w 0 (seenAt s i).length)), (4, .c (I i))], o := [(1, ⟨v, 4, true, true, [encStore s]⟩), (29, ⟨w, 1, true, false, irow (seenAt s i)⟩)], n := x } = some (.ret, { t := [(2, .c (.bool false))], o := [], n := k }) := by
    intro hp
    have hpp : (decide (0 < i) && decide (s.boxes[i].gid ≤ s.boxes[i - 1].gid)) = false := by
      rcases hp with hp | hp <;> simp [hp]
    have key : (∀ (Q : Prop), (0 < i → ¬ s.boxes[i].gid ≤ s.boxes[i - 1].gid → Q) → (¬ 0 < i → Q) → Q) := by
      intro Q q1 q2
      by_cases c7 : 0 < i
      · rcases hp with hp | hp
        · exact absurd c7 hp
        · exact q1 c7 hp
      · exact q2 c7
    have e6 : 0 < i → IntKind.i64.wrap ((i : Int) - 1) = ((i - 1 : Nat) : Int) := fun c7 => by rw [wrap_i64 (by have := hs.b; omega) (by have := hs.b; omega)]; omega
    have hi1 : i - 1 < s.boxes.length := by omega
    by_cases c3 : intO (named s.boxes s.boxes[i].name) = (i : Int)
    rotate_left
    · exact key _ (fun c7 c2 => by simp (maxSteps := 1000000) [spec_StoreOk.l0, List.range_succ, bs_get, setAt, hi, h1, h2, c7, c2, c3, e6 c7, encBox, hi1]) (fun c7 => by simp (maxSteps := 1000000) [spec_StoreOk.l0, List.range_succ, bs_get, setAt, hi, h1, h2, c7, c3, encBox])
    rw [c3] at h2
    by_cases c4 : s.boxes[i].gid ∈ s.gone
    · rw [decide_eq_true c4] at h3
      exact key _ (fun c7 c2 => by simp (maxSteps := 1000000) [spec_StoreOk.l0, List.range_succ, bs_get, setAt, hi, h1, h2, h3, c7, c2, c3, e6 c7, encBox, hi1]) (fun c7 => by simp (maxSteps := 1000000) [spec_StoreOk.l0, List.range_succ, bs_get, setAt, hi, h1, h2, h3, c7, c3, encBox])
    rw [decide_eq_false c4] at h3
    cases c5 : late s.boxes[i] s.time
    rotate_left
    · rw [c5] at h4
      exact key _ (fun c7 c2 => by simp (maxSteps := 1000000) [spec_StoreOk.l0, List.range_succ, bs_get, setAt, hi, h1, h2, h3, h4, c7, c2, c3, e6 c7, encBox, hi1]) (fun c7 => by simp (maxSteps := 1000000) [spec_StoreOk.l0, List.range_succ, bs_get, setAt, hi, h1, h2, h3, h4, c7, c3, encBox])
    rw [c5] at h4
    have c6 : dups (seenAt s i) (gidsOf s.boxes[i]) = true := by
      rw [c1, hpp, c3, c5] at c
      simpa [c4] using c
    obtain ⟨k, hk⟩ : ∃ k, firstN (dupAt (seenAt s i) (gidsOf s.boxes[i])) s.boxes[i].mails.length = some k := by
      unfold dups at c6; rw [gidsOf_len] at c6; exact Option.isSome_iff_exists.1 c6
    rw [hk] at hr2
    simp [sp1S, sp1O, fin1] at hr2
    have hgl := gidsOf_len s.boxes[i]
    exact key _ (fun c7 c2 => by simp (maxSteps := 1000000) [spec_StoreOk.l0, List.range_succ, bs_get, setAt, hi, h1, h2, h3, h4, c7, c2, c3, e6 c7, hr2, encBox, hi1]) (fun c7 => by simp (maxSteps := 1000000) [spec_StoreOk.l0, List.range_succ, bs_get, setAt, hi, h1, h2, h3, h4, c7, c3, hr2, encBox])
  by_cases c7 : 0 < i
  · by_cases c2 : s.boxes[i].gid ≤ s.boxes[i - 1].gid
    · have e6 : IntKind.i64.wrap ((i : Int) - 1) = ((i - 1 : Nat) : Int) := by rw [wrap_i64 (by have := hs.b; omega) (by have := hs.b; omega)]; omega
      simp (maxSteps := 1000000) [spec_StoreOk.l0, List.range_succ, bs_get, setAt, hi, h1, c7, c2, e6, encBox, (show i - 1 < s.boxes.length by omega)]
    · exact tail (.inr c2)
  · exact tail (.inl c7)
theorem spec_StoreOk.says (h : spec_StoreOk.k M) (s : Store) (hs : StoreIn s) : run M 149 [.a (encStore s)] [] = some (.c (.bool (storeOk s)), []) := by
  obtain ⟨h0, k1, k2, k3, k4, k5, k6⟩ := h
  have h1 := spec_l01In.inR k2 s.who 1 2
  have h2 := spec_l01In.inR k2 s.time 0 100000
  have h3 := spec_l06Sorted.says k4 s.gone 20 (by have := hs.g; omega)
  refine run_code (b := spec_StoreOk.m) h0 ⟨4000000, ?_⟩
  obtain ⟨K, hK⟩ : ∃ K, 4000000 = K := ⟨_, rfl⟩
  rw [hK]
  obtain ⟨g, hr⟩ := early_loop (f := exC (run M) K spec_StoreOk.l0) s.boxes.length (badAt s) (sp0S s) 2 (.bool false) 0 (sp0E s)
    (fun i hi x c => spec_StoreOk.good ⟨k1, k3, k5, k6⟩ s hs K (by omega) i hi x c)
    (fun i hi x c => spec_StoreOk.bad ⟨k1, k3, k5, k6⟩ s hs K (by omega) i hi x c)
    (fun x => by
      obtain ⟨v, w, x⟩ := x
      simp only [Prod.exists]
      simp (maxSteps := 1000000) [spec_StoreOk.l0, List.range_succ, bs_get, setAt, sp0S, sp0E, spO])
  have hr2 := fun x => loopN_le (hr x) (show s.boxes.length + 1 ≤ K by have := hs.b; omega)
  cases c1 : inR 1 s.who 2
  · simp (maxSteps := 1000000) [exB, spec_StoreOk.m, spec_StoreOk.b, List.range_succ, bs_get, setAt, h1, c1, storeOk]
  cases c2 : inR 0 s.time 100000
  · simp (maxSteps := 1000000) [exB, spec_StoreOk.m, spec_StoreOk.b, List.range_succ, bs_get, setAt, h1, h2, c1, c2, storeOk]
  by_cases c3 : 5 < s.boxes.length
  · have c3' : ¬ s.boxes.length ≤ 5 := by omega
    have ci : (5 : Int) < s.boxes.length := by omega
    simp (maxSteps := 1000000) [exB, spec_StoreOk.m, spec_StoreOk.b, List.range_succ, bs_get, setAt, h1, h2, c1, c2, c3', ci, storeOk]
  have c3' : s.boxes.length ≤ 5 := by omega
  have ci : ¬ (5 : Int) < s.boxes.length := by omega
  cases c4 : gidsOk s.gone 20
  · simp (maxSteps := 1000000) [exB, spec_StoreOk.m, spec_StoreOk.b, List.range_succ, bs_get, setAt, h1, h2, h3, c1, c2, ci, c4, storeOk]
  have hz : seenAt s 0 = [] := by simp [seenAt]
  cases q : firstN (badAt s) s.boxes.length with
  | none =>
    simp [sp0S, sp0E, spO, q, fin1, hz, irow] at hr2
    simp (maxSteps := 1000000) [exB, spec_StoreOk.m, spec_StoreOk.b, List.range_succ, bs_get, setAt, h1, h2, h3, c1, c2, c3', ci, c4, hr2, storeOk, q]
  | some k =>
    simp [sp0S, spO, q, fin1, hz, irow] at hr2
    simp (maxSteps := 1000000) [exB, spec_StoreOk.m, spec_StoreOk.b, List.range_succ, bs_get, setAt, h1, h2, h3, c1, c2, c3', ci, c4, hr2, storeOk, q]
end Mx

namespace Mx
open Go
variable {M : Nat → Option Body}
def pw (k : Nat) : Nat := 128 ^ k
/-- a number read from a place on; d: how many bytes may come; k: how many came; n: what they are -/
def rvGo (l : List UInt8) (a : Nat) : Nat → Nat → Nat → Option (Nat × Nat × Bool)
  | 0, _, _ => none
  | d + 1, k, n => if h : a + k < l.length then
      if l[a + k].toNat < 128 then some (if n + l[a + k].toNat % 128 * pw k ≤ 1000000000 ∧ varT (n + l[a + k].toNat % 128 * pw k) = (l.drop a).take (k + 1) then (n + l[a + k].toNat % 128 * pw k, a + k + 1, true) else (0, 0, false))
      else rvGo l a d (k + 1) (n + l[a + k].toNat % 128 * pw k)
    else none
def readVar (l : List UInt8) (a : Int) : Nat × Nat × Bool := if 0 ≤ a ∧ a ≤ l.length then (rvGo l a.toNat 5 0 0).getD (0, 0, false) else (0, 0, false)
theorem rvGo_end (l : List UInt8) (a d k n : Nat) (h : ¬ a + k < l.length) : rvGo l a d k n = none := by
  cases d with
  | zero => rfl
  | succ d => rw [rvGo, dif_neg h]
theorem rvGo_le (l : List UInt8) (a : Nat) : ∀ d k n r, rvGo l a d k n = some r → r.1 ≤ 1000000000 ∧ r.2.1 ≤ l.length ∧ (r.2.2 = true → a + k < r.2.1)
  | 0, k, n, r, h => by simp [rvGo] at h
  | d + 1, k, n, r, hr => by
    rw [rvGo] at hr
    by_cases h : a + k < l.length
    · rw [dif_pos h] at hr
      split at hr
      · simp only [Option.some.injEq] at hr
        subst hr
        split
        · rename_i hc
          exact ⟨hc.1, by simp only; omega, fun _ => by simp only; omega⟩
        · simp
      · have := rvGo_le l a d (k + 1) _ r hr
        exact ⟨this.1, this.2.1, fun q => by have := this.2.2 q; omega⟩
    · rw [dif_neg h] at hr; cases hr
theorem readVar_le (l : List UInt8) (a : Int) : (readVar l a).1 ≤ 1000000000 ∧ (readVar l a).2.1 ≤ l.length ∧ ((readVar l a).2.2 = true → 0 ≤ a ∧ a < (readVar l a).2.1) := by
  unfold readVar
  split
  · rename_i h
    cases hg : rvGo l a.toNat 5 0 0 with
    | none => simp
    | some r =>
      have := rvGo_le l a.toNat 5 0 0 r hg
      exact ⟨this.1, this.2.1, fun q => ⟨h.1, by have := this.2.2 q; simp only [Option.getD_some]; omega⟩⟩
  · simp
def spR (l : List UInt8) (a : Nat) (s : Nat × Nat) (x : Nat) : St := { t := [(0, .c (S l)), (1, .c (I a)), (7, .c (I s.2)), (8, .c (I (pw s.1 : Nat))), (9, .c (I ((a : Int) + s.1)))], o := [], n := x }
def rvFin (q : Option (Nat × Nat × Bool)) (m : St) : Out × St := match q with
  | some r => (.ret, { t := [(4, .c (I r.1)), (5, .c (I r.2.1)), (6, .c (.bool r.2.2))], o := [], n := m.n })
  | none => (.exit 0, m)
theorem rvFin_ne (q : Option (Nat × Nat × Bool)) (m : St) : (rvFin q m).1 ≠ .normal := by
  cases q <;> simp [rvFin]
theorem pow_le5 {k : Nat} (h : k ≤ 5) : pw k ≤ 34359738368 := by
  have : k = 0 ∨ k = 1 ∨ k = 2 ∨ k = 3 ∨ k = 4 ∨ k = 5 := by omega
  rcases this with rfl | rfl | rfl | rfl | rfl | rfl <;> decide +kernel
theorem pw_succ (k : Nat) : pw (k + 1) = pw k * 128 := Nat.pow_succ 128 k
theorem step_lt {n k b : Nat} (h : n < pw k) : n + b % 128 * pw k < pw (k + 1) := by
  have h1 : b % 128 ≤ 127 := by omega
  have h2 : b % 128 * pw k ≤ 127 * pw k := Nat.mul_le_mul_right _ h1
  rw [pw_succ]; omega
theorem spec_ReadVar.says (h : spec_ReadVar.k M) (l : List UInt8) (hl : l.length ≤ 4611686018427387904) (a : Int) :
    run M 221 [.c (S l), .c (I a)] [] = some (.tup [.c (I (readVar l a).1), .c (I (readVar l a).2.1), .c (.bool (readVar l a).2.2)], []) := by
  obtain ⟨h0, k1, k2⟩ := h
  have hw := spec_l01In.says k1 a 0 l.length
  refine run_code (b := spec_ReadVar.m) h0 ⟨7, ?_⟩
  by_cases c : 0 ≤ a ∧ a ≤ l.length
  rotate_left
  · have hb : (decide (0 ≤ a) && decide (a ≤ (l.length : Int))) = false := by
      rw [Bool.eq_false_iff]; intro hh; simp only [Bool.and_eq_true, decide_eq_true_eq] at hh; omega
    rw [hb] at hw
    simp [exB, spec_ReadVar.m, spec_ReadVar.b, List.range_succ, hw, readVar, c]
  obtain ⟨c1, c2⟩ := c
  obtain ⟨a, rfl⟩ := Int.eq_ofNat_of_zero_le c1
  have c3 : a ≤ l.length := by omega
  simp [c1, c3] at hw
  obtain ⟨g, hr⟩ := loop_all (f := exC (run M) 7 spec_ReadVar.l0) (spR l a) (fun s => s.1 ≤ 5 ∧ s.2 < pw s.1) (fun s => 5 - s.1) (fun s => rvGo l a (5 - s.1) s.1 s.2) rvFin
    (by
      rintro ⟨k, n⟩ x ⟨h1, h2⟩
      simp only at h1 h2
      have hp := pow_le5 h1
      have e2 : IntKind.i64.wrap ((a : Int) + 5) = (a : Int) + 5 := wrap_i64 (by omega) (by omega)
      have stop : (∃ m, exC (run M) 7 spec_ReadVar.l0 (spR l a (k, n) x) = some (rvFin (rvGo l a (5 - k) k n) m)) → (∃ s' y, exC (run M) 7 spec_ReadVar.l0 (spR l a (k, n) x) = some (.normal, spR l a s' y) ∧ (s'.1 ≤ 5 ∧ s'.2 < pw s'.1) ∧ 5 - s'.1 < 5 - (k, n).1 ∧ rvGo l a (5 - s'.1) s'.1 s'.2 = rvGo l a (5 - (k, n).1) (k, n).1 (k, n).2) ∨ (∃ z, exC (run M) 7 spec_ReadVar.l0 (spR l a (k, n) x) = some (rvFin (rvGo l a (5 - (k, n).1) (k, n).1 (k, n).2) z) ∧ (rvFin (rvGo l a (5 - (k, n).1) (k, n).1 (k, n).2) z).1 ≠ .normal) := fun ⟨m, hm⟩ => .inr ⟨m, hm, rvFin_ne _ _⟩
      by_cases hlt : a + k < l.length
      rotate_left
      · have d1 : ¬ (a : Int) + k < l.length := by omega
        refine stop ?_
        simp only [rvGo_end l a _ k n hlt, rvFin]
        simp [spR, spec_ReadVar.l0, d1]
      have d1 : (a : Int) + k < l.length := by omega
      by_cases h5 : k < 5
      rotate_left
      · have : k = 5 := by omega
        subst this
        refine stop ?_
        simp only [Nat.sub_self, rvGo, rvFin]
        simp at d1
        simp [spR, spec_ReadVar.l0, d1, e2]
      have d2 : (a : Int) + k < a + 5 := by omega
      have hs := step_lt (b := l[a + k].toNat) h2
      have hp' := pow_le5 (k := k + 1) (by omega)
      have hd : 5 - k = (5 - (k + 1)) + 1 := by omega
      obtain ⟨b, hb⟩ : ∃ b, l[a + k] = b := ⟨_, rfl⟩
      rw [hb] at hs
      have hbl := b.toNat_lt
      have e3 : IntKind.i64.wrap (b.toNat : Int) = b.toNat := wrap_i64 (by omega) (by omega)
      have q4 : ((b.toNat : Int) % 128 * (pw k : Nat)) = ((b.toNat % 128 * pw k : Nat) : Int) := by push_cast; rfl
      have e4 : IntKind.i64.wrap ((b.toNat : Int) % 128 * (pw k : Nat)) = (b.toNat : Int) % 128 * (pw k : Nat) := by rw [q4]; exact wrap_i64 (by omega) (by omega)
      have e5 : IntKind.i64.wrap ((n : Int) + (b.toNat : Int) % 128 * (pw k : Nat)) = (n : Int) + (b.toNat : Int) % 128 * (pw k : Nat) := by rw [q4]; exact wrap_i64 (by omega) (by omega)
      have e6 : IntKind.i64.wrap (((pw k : Nat) : Int) * 128) = ((pw (k + 1) : Nat) : Int) := by
        rw [show ((pw k : Nat) : Int) * 128 = ((pw (k + 1) : Nat) : Int) by rw [pw_succ]; push_cast; rfl]
        exact wrap_i64 (by omega) (by omega)
      have e7 : IntKind.i64.wrap ((a : Int) + k + 1) = (a : Int) + (k + 1) := by rw [wrap_i64 (by omega) (by omega)]; omega
      have e8 : ((a : Int) + k).toNat = a + k := by omega
      have e9 : (b.toNat : Int).tmod 128 = (b.toNat : Int) % 128 := Int.tmod_eq_emod_of_nonneg (by omega)
      have h1' := spec_l01Var.says k2 (n + b.toNat % 128 * pw k) (by omega)
      simp only [Int.natCast_add, Int.natCast_mul, Int.natCast_emod, Int.cast_ofNat_Int] at h1'
      have f0 : (0 : Int) ≤ (a : Int) + k := by omega
      by_cases hb128 : b.toNat < 128
      rotate_left
      · left
        have b1 : ¬ (b.toNat : Int) < 128 := by omega
        obtain ⟨y, hy⟩ : ∃ y, exC (run M) 7 spec_ReadVar.l0 (spR l a (k, n) x) = some (.normal, spR l a (k + 1, n + b.toNat % 128 * pw k) y) := by
          simp [spR, spec_ReadVar.l0, d1, d2, e2, e3, e4, e5, e6, e7, e8, e9, f0, hlt, bs_get, hb, b1]
        refine ⟨(k + 1, n + b.toNat % 128 * pw k), y, hy, ⟨h5, hs⟩, by simp only; omega, ?_⟩
        simp only [hd]
        rw [rvGo, dif_pos hlt, hb, if_neg hb128]
      refine stop ?_
      have b1 : (b.toNat : Int) < 128 := by omega
      rw [hd, rvGo, dif_pos hlt, hb, if_pos hb128]
      have f1 : (0 : Int) ≤ (a : Int) + (k + 1) := by omega
      have f2 : ((a : Int) + (k + 1)).toNat = a + (k + 1) := by omega
      by_cases hN : n + b.toNat % 128 * pw k ≤ 1000000000
      rotate_left
      · rw [if_neg (fun q => hN q.1)]
        have hN' : 1000000000 < (n : Int) + (b.toNat : Int) % 128 * (pw k : Nat) := by rw [q4]; omega
        simp [rvFin, spR, spec_ReadVar.l0, d1, d2, e2, e3, e4, e5, e6, e7, e8, e9, f0, hlt, bs_get, hb, b1, hN']
        exact ⟨⟨[], [], _⟩, rfl⟩
      have hN' : ¬ 1000000000 < (n : Int) + (b.toNat : Int) % 128 * (pw k : Nat) := by rw [q4]; omega
      obtain ⟨w, hw'⟩ : ∃ w, (l.drop a).take (k + 1) = w := ⟨_, rfl⟩
      have w1 : (l.take (a + (k + 1))).drop a = w := by rw [← hw', List.drop_take]; congr 1; omega
      have w2 : (l.drop a).take (a + (k + 1) - a) = w := by rw [← hw']; congr 1; omega
      have g1 : a ≤ a + (k + 1) ∧ a + (k + 1) ≤ l.length := by omega
      rw [hw']
      by_cases hv : varT (n + b.toNat % 128 * pw k) = w
      · rw [if_pos ⟨hN, hv⟩]
        simp [rvFin, spR, spec_ReadVar.l0, d1, d2, e2, e3, e4, e5, e6, e7, e8, e9, f0, hlt, bs_get, hb, b1, hN', h1', f1, f2, w1, w2, g1, hv]
        exact ⟨by omega, ⟨[], [], _⟩, rfl⟩
      · rw [if_neg (fun q => hv q.2)]
        simp [rvFin, spR, spec_ReadVar.l0, d1, d2, e2, e3, e4, e5, e6, e7, e8, e9, f0, hlt, bs_get, hb, b1, hN', h1', f1, f2, w1, w2, g1, hv]
        exact ⟨⟨[], [], _⟩, rfl⟩)
    7 (0, 0) ⟨by simp, by simp [pw]⟩ (by simp)
  simp only [Nat.sub_zero] at hr
  have hp0 : pw 0 = 1 := rfl
  simp only [readVar]
  rw [if_pos ⟨c1, c2⟩]
  simp only [Int.toNat_natCast]
  cases hg : rvGo l a 5 0 0 with
  | none =>
    simp [spR, hg, rvFin, hp0] at hr
    simp [exB, spec_ReadVar.m, spec_ReadVar.b, List.range_succ, hw, hr]
  | some r =>
    simp [spR, hg, rvFin, hp0] at hr
    simp [exB, spec_ReadVar.m, spec_ReadVar.b, List.range_succ, hw, hr]
def imR (l : List UInt8) (a : Nat) (s : Nat × Nat) (x : Nat) : St := { t := [(0, .c (S l)), (1, .c (I a)), (7, .c (I s.2)), (8, .c (I s.1))], o := [], n := x }
theorem impl_ReadVar.says (h : impl_ReadVar.k M) (l : List UInt8) (hl : l.length ≤ 4611686018427387904) (a : Int) :
    run M 231 [.c (S l), .c (I a)] [] = some (.tup [.c (I (readVar l a).1), .c (I (readVar l a).2.1), .c (.bool (readVar l a).2.2)], []) := by
  obtain ⟨h0, k1, k2⟩ := h
  have hw := impl_within.says k1 a 0 l.length
  refine run_code (b := impl_ReadVar.m) h0 ⟨7, ?_⟩
  by_cases c : 0 ≤ a ∧ a ≤ l.length
  rotate_left
  · have hb : (decide (0 ≤ a) && decide (a ≤ (l.length : Int))) = false := by
      rw [Bool.eq_false_iff]; intro hh; simp only [Bool.and_eq_true, decide_eq_true_eq] at hh; omega
    rw [hb] at hw
    simp [exB, impl_ReadVar.m, impl_ReadVar.b, List.range_succ, hw, readVar, c]
  obtain ⟨c1, c2⟩ := c
  obtain ⟨a, rfl⟩ := Int.eq_ofNat_of_zero_le c1
  have c3 : a ≤ l.length := by omega
  simp [c1, c3] at hw
  obtain ⟨g, hr⟩ := loop_all (f := exC (run M) 7 impl_ReadVar.l0) (imR l a) (fun s => s.1 ≤ 5 ∧ s.2 < pw s.1) (fun s => 5 - s.1) (fun s => rvGo l a (5 - s.1) s.1 s.2) rvFin
    (by
      rintro ⟨k, n⟩ x ⟨h1, h2⟩
      simp only at h1 h2
      have hp := pow_le5 h1
      have stop : (∃ m, exC (run M) 7 impl_ReadVar.l0 (imR l a (k, n) x) = some (rvFin (rvGo l a (5 - k) k n) m)) → (∃ s' y, exC (run M) 7 impl_ReadVar.l0 (imR l a (k, n) x) = some (.normal, imR l a s' y) ∧ (s'.1 ≤ 5 ∧ s'.2 < pw s'.1) ∧ 5 - s'.1 < 5 - (k, n).1 ∧ rvGo l a (5 - s'.1) s'.1 s'.2 = rvGo l a (5 - (k, n).1) (k, n).1 (k, n).2) ∨ (∃ z, exC (run M) 7 impl_ReadVar.l0 (imR l a (k, n) x) = some (rvFin (rvGo l a (5 - (k, n).1) (k, n).1 (k, n).2) z) ∧ (rvFin (rvGo l a (5 - (k, n).1) (k, n).1 (k, n).2) z).1 ≠ .normal) := fun ⟨m, hm⟩ => .inr ⟨m, hm, rvFin_ne _ _⟩
      by_cases h5 : k < 5
      rotate_left
      · have : k = 5 := by omega
        subst this
        refine stop ?_
        simp only [Nat.sub_self, rvGo, rvFin]
        simp [imR, impl_ReadVar.l0]
      have d2 : (k : Int) < 5 := by omega
      have e0 : IntKind.i64.wrap ((a : Int) + k) = (a : Int) + k := wrap_i64 (by omega) (by omega)
      by_cases hlt : a + k < l.length
      rotate_left
      · have d1 : ¬ (a : Int) + k < l.length := by omega
        refine stop ?_
        simp only [rvGo_end l a _ k n hlt, rvFin]
        simp [imR, impl_ReadVar.l0, d1, d2, e0]
      have d1 : (a : Int) + k < l.length := by omega
      have hs := step_lt (b := l[a + k].toNat) h2
      have hp' := pow_le5 (k := k + 1) (by omega)
      have hd : 5 - k = (5 - (k + 1)) + 1 := by omega
      obtain ⟨b, hb⟩ : ∃ b, l[a + k] = b := ⟨_, rfl⟩
      rw [hb] at hs
      have hbl := b.toNat_lt
      have e3 : andI .u8 (b.toNat : Int) 127 = (b.toNat : Int) % 128 := by
        have := and_u8 b.toNat 127 (by omega) (by omega)
        rw [and_127] at this
        rw [show (127 : Int) = ((127 : Nat) : Int) from rfl, this]; omega
      have e3' : IntKind.i64.wrap ((b.toNat : Int) % 128) = (b.toNat : Int) % 128 := wrap_i64 (by omega) (by omega)
      have e4 : IntKind.i64.wrap (7 * (k : Int)) = 7 * (k : Int) := wrap_i64 (by omega) (by omega)
      have e4' : (7 * (k : Int)).toNat = 7 * k := by omega
      have e4'' : min (7 * k) 64 = 7 * k := by omega
      have q4 : ((b.toNat : Int) % 128 * (pw k : Nat)) = ((b.toNat % 128 * pw k : Nat) : Int) := by push_cast; rfl
      have q5 : (2 : Int) ^ (7 * k) = (pw k : Nat) := by
        unfold pw
        rw [Int.pow_mul]; push_cast; rfl
      have e5 : IntKind.i64.wrap ((b.toNat : Int) % 128 * (pw k : Nat)) = (b.toNat : Int) % 128 * (pw k : Nat) := by rw [q4]; exact wrap_i64 (by omega) (by omega)
      have e6 : orI .i64 (n : Int) ((b.toNat : Int) % 128 * (pw k : Nat)) = (n : Int) + (b.toNat : Int) % 128 * (pw k : Nat) := by
        rw [q4, or_i64 n (b.toNat % 128 * pw k) (by omega) (by omega)]
        have := or_high n (b.toNat % 128) k h2
        unfold pw at this ⊢
        rw [this]; push_cast; rfl
      have e7 := wrap1 (i := k) (by omega)
      have e7' : IntKind.i64.wrap ((a : Int) + k + 1) = (a : Int) + (k + 1) := by rw [wrap_i64 (by omega) (by omega)]; omega
      have e8 : ((a : Int) + k).toNat = a + k := by omega
      have h1' := impl_VarText.says k2 (n + b.toNat % 128 * pw k) (by omega)
      simp only [Int.natCast_add, Int.natCast_mul, Int.natCast_emod, Int.cast_ofNat_Int] at h1'
      have f0 : (0 : Int) ≤ (a : Int) + k := by omega
      have f3 : (0 : Int) ≤ 7 * (k : Int) := by omega
      have f4 : ¬ 7 * (k : Int) < 0 := by omega
      by_cases hb128 : b.toNat < 128
      rotate_left
      · left
        have b1 : 127 < (b.toNat : Int) := by omega
        obtain ⟨y, hy⟩ : ∃ y, exC (run M) 7 impl_ReadVar.l0 (imR l a (k, n) x) = some (.normal, imR l a (k + 1, n + b.toNat % 128 * pw k) y) := by
          simp [imR, impl_ReadVar.l0, d1, d2, e0, e3, e3', e4, e4', e4'', e5, e6, e7, e8, q5, f0, f3, f4, hlt, bs_get, hb, b1, IntKind.bits]
        refine ⟨(k + 1, n + b.toNat % 128 * pw k), y, hy, ⟨h5, hs⟩, by simp only; omega, ?_⟩
        simp only [hd]
        rw [rvGo, dif_pos hlt, hb, if_neg hb128]
      refine stop ?_
      have b1 : ¬ 127 < (b.toNat : Int) := by omega
      rw [hd, rvGo, dif_pos hlt, hb, if_pos hb128]
      have f1 : (0 : Int) ≤ (a : Int) + (k + 1) := by omega
      have f2 : ((a : Int) + (k + 1)).toNat = a + (k + 1) := by omega
      by_cases hN : n + b.toNat % 128 * pw k ≤ 1000000000
      rotate_left
      · rw [if_neg (fun q => hN q.1)]
        simp only [hN, if_false, decide_false] at h1'
        simp [rvFin, imR, impl_ReadVar.l0, d1, d2, e0, e3, e3', e4, e4', e4'', e5, e6, e7, e8, q5, f0, f3, f4, hlt, bs_get, hb, b1, h1', IntKind.bits]
        exact ⟨⟨[], [], _⟩, rfl⟩
      simp only [hN, if_true, decide_true] at h1'
      obtain ⟨w, hw'⟩ : ∃ w, (l.drop a).take (k + 1) = w := ⟨_, rfl⟩
      have w1 : (l.take (a + (k + 1))).drop a = w := by rw [← hw', List.drop_take]; congr 1; omega
      have w2 : (l.drop a).take (a + (k + 1) - a) = w := by rw [← hw']; congr 1; omega
      have g1 : a ≤ a + (k + 1) ∧ a + (k + 1) ≤ l.length := by omega
      rw [hw']
      by_cases hv : varT (n + b.toNat % 128 * pw k) = w
      · rw [if_pos ⟨hN, hv⟩]
        simp [rvFin, imR, impl_ReadVar.l0, d1, d2, e0, e3, e3', e4, e4', e4'', e5, e6, e7, e7', e8, q5, f0, f3, f4, hlt, bs_get, hb, b1, h1', f1, f2, w1, w2, g1, hv, IntKind.bits]
        exact ⟨by omega, ⟨[], [], _⟩, rfl⟩
      · rw [if_neg (fun q => hv q.2)]
        simp [rvFin, imR, impl_ReadVar.l0, d1, d2, e0, e3, e3', e4, e4', e4'', e5, e6, e7, e7', e8, q5, f0, f3, f4, hlt, bs_get, hb, b1, h1', f1, f2, w1, w2, g1, hv, IntKind.bits]
        exact ⟨⟨[], [], _⟩, rfl⟩)
    7 (0, 0) ⟨by simp, by simp [pw]⟩ (by simp)
  simp only [Nat.sub_zero] at hr
  simp only [readVar]
  rw [if_pos ⟨c1, c2⟩]
  simp only [Int.toNat_natCast]
  cases hg : rvGo l a 5 0 0 with
  | none =>
    simp [imR, hg, rvFin] at hr
    simp [exB, impl_ReadVar.m, impl_ReadVar.b, List.range_succ, hw, hr]
  | some r =>
    simp [imR, hg, rvFin] at hr
    simp [exB, impl_ReadVar.m, impl_ReadVar.b, List.range_succ, hw, hr]
/-- a short text read from a place on -/
def readShort (l : List UInt8) (a : Int) : List UInt8 × Nat × Bool :=
  if (readVar l a).2.2 = true ∧ (readVar l a).1 ≤ 20000 ∧ (readVar l a).1 + (readVar l a).2.1 ≤ l.length then ((l.drop (readVar l a).2.1).take (readVar l a).1, (readVar l a).2.1 + (readVar l a).1, true) else ([], 0, false)
theorem spec_ReadShort.says (h : spec_ReadShort.k M) (l : List UInt8) (hl : l.length ≤ 4611686018427387904) (a : Int) :
    run M 206 [.c (S l), .c (I a)] [] = some (.tup [.c (S (readShort l a).1), .c (I (readShort l a).2.1), .c (.bool (readShort l a).2.2)], []) := by
  have h1 := spec_ReadVar.says h.2 l hl a
  obtain ⟨q1, q2, _⟩ := readVar_le l a
  refine run_code (b := spec_ReadShort.m) h.1 ⟨0, ?_⟩
  unfold readShort
  generalize (readVar l a).1 = n at *
  generalize (readVar l a).2.1 = f at *
  generalize (readVar l a).2.2 = ok at *
  cases ok with
  | false => simp [exB, spec_ReadShort.m, spec_ReadShort.b, List.range_succ, h1]
  | true =>
    by_cases c1 : n ≤ 20000
    rotate_left
    · have c1' : 20000 < (n : Int) := by omega
      simp [exB, spec_ReadShort.m, spec_ReadShort.b, List.range_succ, h1, c1, c1']
    have c1' : ¬ 20000 < (n : Int) := by omega
    have e1 : IntKind.i64.wrap ((l.length : Int) - f) = (l.length : Int) - f := wrap_i64 (by omega) (by omega)
    by_cases c2 : n + f ≤ l.length
    rotate_left
    · have c2' : (l.length : Int) - f < n := by omega
      simp [exB, spec_ReadShort.m, spec_ReadShort.b, List.range_succ, h1, c1, c1', c2, c2', e1]
    have c2' : ¬ (l.length : Int) - f < n := by omega
    have e2 : IntKind.i64.wrap ((f : Int) + n) = (f : Int) + n := wrap_i64 (by omega) (by omega)
    have e3 : ((f : Int) + n).toNat = f + n := by omega
    have e4 : (0 : Int) ≤ (f : Int) + n := by omega
    have e5 : f ≤ f + n ∧ f + n ≤ l.length := by omega
    obtain ⟨w, hw⟩ : ∃ w, (l.drop f).take n = w := ⟨_, rfl⟩
    have w1 : (l.take (f + n)).drop f = w := by rw [← hw, List.drop_take]; congr 1; omega
    have w2 : (l.drop f).take (f + n - f) = w := by rw [← hw]; congr 1; omega
    simp [exB, spec_ReadShort.m, spec_ReadShort.b, List.range_succ, h1, c1, c1', c2, c2', e1, e2, e3, e4, e5, hw, w1, w2]
theorem impl_ReadShort.says (h : impl_ReadShort.k M) (l : List UInt8) (hl : l.length ≤ 4611686018427387904) (a : Int) :
    run M 207 [.c (S l), .c (I a)] [] = some (.tup [.c (S (readShort l a).1), .c (I (readShort l a).2.1), .c (.bool (readShort l a).2.2)], []) := by
  have h1 := impl_ReadVar.says h.2 l hl a
  obtain ⟨q1, q2, _⟩ := readVar_le l a
  refine run_code (b := impl_ReadShort.m) h.1 ⟨0, ?_⟩
  unfold readShort
  generalize (readVar l a).1 = n at *
  generalize (readVar l a).2.1 = f at *
  generalize (readVar l a).2.2 = ok at *
  cases ok with
  | false => simp [exB, impl_ReadShort.m, impl_ReadShort.b, List.range_succ, h1]
  | true =>
    by_cases c1 : n ≤ 20000
    rotate_left
    · have c1' : 20000 < (n : Int) := by omega
      simp [exB, impl_ReadShort.m, impl_ReadShort.b, List.range_succ, h1, c1, c1']
    have c1' : ¬ 20000 < (n : Int) := by omega
    have e1 : IntKind.i64.wrap ((l.length : Int) - f) = (l.length : Int) - f := wrap_i64 (by omega) (by omega)
    by_cases c2 : n + f ≤ l.length
    rotate_left
    · have c2' : (l.length : Int) - f < n := by omega
      simp [exB, impl_ReadShort.m, impl_ReadShort.b, List.range_succ, h1, c1, c1', c2, c2', e1]
    have c2' : ¬ (l.length : Int) - f < n := by omega
    have e2 : IntKind.i64.wrap ((f : Int) + n) = (f : Int) + n := wrap_i64 (by omega) (by omega)
    have e3 : ((f : Int) + n).toNat = f + n := by omega
    have e4 : (0 : Int) ≤ (f : Int) + n := by omega
    have e5 : f ≤ f + n ∧ f + n ≤ l.length := by omega
    obtain ⟨w, hw⟩ : ∃ w, (l.drop f).take n = w := ⟨_, rfl⟩
    have w1 : (l.take (f + n)).drop f = w := by rw [← hw, List.drop_take]; congr 1; omega
    have w2 : (l.drop f).take (f + n - f) = w := by rw [← hw]; congr 1; omega
    simp [exB, impl_ReadShort.m, impl_ReadShort.b, List.range_succ, h1, c1, c1', c2, c2', e1, e2, e3, e4, e5, hw, w1, w2]
end Mx

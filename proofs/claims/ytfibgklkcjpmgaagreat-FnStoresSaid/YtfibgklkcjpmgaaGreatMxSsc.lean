/-
  What more of the functions compute, each by a small evaluation; no condition beyond what each says.
-/
import Derived.Laws.IdiomCopy
import Derived.Laws.Append
import Derived.Lib.SlicesCompact
import Derived.Test.YtfibgklkcjpmgaaGreatMxSsb
set_option linter.unusedSimpArgs false
set_option linter.unusedVariables false
namespace Mx
open Go
def spec_l04Copy.b : C := .seq (.reg [Q 2 (.nil 3)] [0] [])
  (.seq (.reg [Q 3 (.bslice 3 0 [.int .i64 0, .int .i64 0, .int .i64 0] []), Qm 4 0, Q 5 (.app 3 24 (.t 3) (.t 4)), Qm 2 5] [2] [2,3,5])
  (.ret))
def spec_l04Copy.m : Fn := { np := 1, body := spec_l04Copy.b, res := [.tmp 2] }
def spec_l04Copy.k (M : Nat → Option Body) : Prop := M 241 = some (.code spec_l04Copy.m)
def spec_l05Copy.b : C := .seq (.reg [Qv 1 0, Q 2 (.alloc [.int .i64 0, .int .i64 0, .nils 3, .str ⟨#[]⟩])] [1,2] [1,2,10500])
  (.seq (.reg [Qf 3 2 1, Ql 4 3, Q 5 (.call 241 [.t 4] [] [(0, 10500)]), Qf 6 2 1, Qs 1 6 5] [1,2] [1,2,10500])
  (.seq (.reg [QL 7 4 1, Qs 4 2 7] [2] [2,10500])
  (.ret)))
def spec_l05Copy.m : Fn := { np := 1, body := spec_l05Copy.b, res := [.cell 2 true 4] }
def spec_l05Copy.k (M : Nat → Option Body) : Prop := M 238 = some (.code spec_l05Copy.m) ∧ spec_l04Copy.k M
def spec_l06Copy.l0 : C := .seq (.seq (.reg [Qm 8 4, Qf 9 5 1, Ql 10 9, Q 11 (.len (.t 10)), Q 12 (.bin .lss (.t 8) (.t 11))] [1,2,3,4,12] [1,2,3,6,24,26,29])
  (.cond (.t 12) (.skip) (.exit 0)))
  (.seq (.block 1 (.regd [Qf 15 5 3, Ql 16 15, Qf 17 5 1, Ql 18 17, Qm 19 4, Qa 20 4 18 19, QL 21 4 20, Q 22 (.call 238 [.t 21] [] []),
    Q 23 (.bslice 4 1 [.int .i64 0, .int .i64 0, .nils 3, .str ⟨#[]⟩] [(0, .t 22)]), Q 24 (.app 4 56 (.t 16) (.t 23)), Qf 25 5 3, Qs 1 25 24] [[], [0], [], [2], [], [2,3,4], [2,3,4,5], [2,3,4,5,6], [2,3,4,5,6,7], lr 9, lr 10, lr 11] [1,2,3,4] [1,2,3,6,24,26,29]))
  (.reg [Qm 13 4, Q 14 (.bin .add (.t 13) (kI 1)), Qm 4 14] [1,2,3,4] [1,2,3,6,24,26,29]))
def spec_l06Copy.b : C := .seq (.reg [Qv 1 0, Q 2 (.alloc [.int .i64 0, .str ⟨#[]⟩, .int .i64 0, .int .i64 0, .int .i64 0, .nils 4, .nils 1])] [1,2] [1,2,6,24,26,29])
  (.seq (.reg [QL 5 7 1, Q 3 (.alloc [.int .i64 0, .str ⟨#[]⟩, .int .i64 0, .int .i64 0, .int .i64 0, .nils 4, .nils 1]), Qs 7 3 5] [1,2,3] [1,2,3,6,24,26,29])
  (.seq (.reg [Q 6 (.bslice 4 0 [.int .i64 0, .int .i64 0, .nils 3, .str ⟨#[]⟩] []), Qf 7 5 3, Qs 1 7 6] [1,2,3] [1,2,3,6,24,26,29])
  (.seq (.seq (.reg [Qi 4 0] [1,2,3,4] [1,2,3,6,24,26,29])
  (.block 0 (.loop spec_l06Copy.l0)))
  (.seq (.reg [Q 26 (.bslice 1 0 [.int .i64 0] []), Qf 27 6 1, Ql 28 27, Q 29 (.app 1 8 (.t 26) (.t 28)), Qf 30 6 3, Qs 1 30 29] [2,3] [2,3,6,24,26,29])
  (.seq (.reg [QL 31 7 3, Qs 7 2 31] [2] [2,6,24,26,29])
  (.ret))))))
def spec_l06Copy.m : Fn := { np := 1, body := spec_l06Copy.b, res := [.cell 2 true 7] }
def spec_l06Copy.k (M : Nat → Option Body) : Prop := M 180 = some (.code spec_l06Copy.m) ∧ spec_l05Copy.k M
def spec_FlagsNew.l0 : C := .seq (.seq (.reg [Qm 9 6, Q 10 (.bin .lss (.t 9) (kI 3))] [0,3,5,6,10] [3,8,24])
  (.cond (.t 10) (.skip) (.exit 0)))
  (.seq (.block 1 (.seq (.reg [Qi 7 0] [0,3,5,6,7] [3,8,24])
  (.seq (.seq (.reg [Qm 13 0, Qm 14 6, Q 15 (.i2i .u64 (.t 14)), Q 16 (.bin .shr (.t 13) (.t 15)), Q 17 (.bin .rem (.t 16) (kI 2)), Q 18 (.bin .neq (.t 17) (kI 0))] [0,3,5,6,7,18] [3,8,24])
  (.cond (.t 18) (.reg [Qi 7 1] [0,3,5,6,7] [3,8,24]) (.skip)))
  (.reg [Qm 19 5, Qm 20 7, QL 21 2 3, Q 22 (.build [.int .i64 0, .int .i64 0, .int .i64 0] [(0, 1, .t 20), (1, 2, .t 21)]),
    Q 23 (.bslice 3 1 [.int .i64 0, .int .i64 0, .int .i64 0] [(0, .t 22)]), Q 24 (.app 3 24 (.t 19) (.t 23)), Qm 5 24] [0,3,5,6] [3,8,24]))))
  (.reg [Qm 11 6, Q 12 (.bin .add (.t 11) (kI 1)), Qm 6 12] [0,3,5,6] [3,8,24]))
def spec_FlagsNew.b : C := .seq (.reg [Qv 3 1, Q 4 (.nil 3)] [0,3] [3])
  (.seq (.reg [Q 8 (.bslice 3 0 [.int .i64 0, .int .i64 0, .int .i64 0] []), Qm 5 8] [0,3,5] [3,8,24])
  (.seq (.seq (.reg [Qi 6 0] [0,3,5,6] [3,8,24])
  (.block 0 (.loop spec_FlagsNew.l0)))
  (.seq (.reg [Qm 25 5, Qm 4 25] [4] [4,8,24])
  (.ret))))
def spec_FlagsNew.m : Fn := { np := 2, body := spec_FlagsNew.b, res := [.tmp 4] }
def spec_FlagsNew.k (M : Nat → Option Body) : Prop := M 181 = some (.code spec_FlagsNew.m)
def spec_AddMail.b : C := .seq (.reg [Qv 5 0, Qv 9 4, Q 10 (.alloc [.int .i64 0, .str ⟨#[]⟩, .int .i64 0, .int .i64 0, .int .i64 0, .nils 4, .nils 1]), Qb 11 false] [1,2,3,5,9,10] [5,9,10,47,11405,11406,15705,15706])
  (.seq (.reg [QL 13 7 5, Q 14 (.call 180 [.t 13] [] [(5, 11405), (6, 11406)]), Q 12 (.alloc [.int .i64 0, .str ⟨#[]⟩, .int .i64 0, .int .i64 0, .int .i64 0, .nils 4, .nils 1]), Qs 7 12 14] [1,2,3,5,9,10,12] [5,9,10,12,47,11405,11406,15705,15706])
  (.seq (.seq (.reg [QL 15 7 5, Q 16 (.call 88 [.t 15] [] []), Q 17 (.not (.t 16)), Qm 18 17, Qg 19 (.load true 7 (.t 5)) 18 false, Qg 20 (.mv (.t 1)) 18 false,
    Qg 21 (.call 91 [.t 19, .t 20] [] []) 18 false, Qg 22 (.bin .geq (.t 21) (kI 0)) 18 false, Q 23 (.pick (.t 18) (kB true) (.t 22)), Qm 24 23, Qg 25 (.faddr 6 (.t 5)) 24 false,
    Qg 26 (.load false 1 (.t 25)) 24 false, Qg 27 (.mv (.t 1)) 24 false, Qg 28 (.call 132 [.t 26, .t 27] [] []) 24 false, Q 29 (.pick (.t 24) (kB true) (.t 28)), Qm 30 29,
    Qg 31 (.mv (.t 2)) 30 false, Qg 32 (.call 98 [.t 31, kI 0, kI 7] [] []) 30 false, Qg 33 (.not (.t 32)) 30 false, Q 34 (.pick (.t 30) (kB true) (.t 33))] [1,2,3,5,9,10,12,34] [5,9,10,12,47,11405,11406,15705,15706])
  (.cond (.t 34) (.seq (.reg [QL 35 7 12, Qs 7 10 35, Qb 11 false] [10,11] [10,47,11405,11406,15705,15706])
  (.ret)) (.skip)))
  (.seq (.regd [Qf 36 5 12, Ql 37 36, Qm 38 1, Qf 39 4 5, Ql 40 39, Qm 41 2, QL 42 2 9, Q 43 (.call 181 [.t 41, .t 42] [] []), Qm 44 3,
    Q 45 (.build [.int .i64 0, .int .i64 0, .nils 3, .str ⟨#[]⟩] [(0, 1, .t 38), (1, 1, .t 40), (2, 1, .t 43), (3, 1, .t 44)]),
    Q 46 (.bslice 4 1 [.int .i64 0, .int .i64 0, .nils 3, .str ⟨#[]⟩] [(0, .t 45)]), Q 47 (.app 4 56 (.t 37) (.t 46)), Qf 48 5 12, Qs 1 48 47] [[], [0], [], [], [3], [], [], [5,6], [], [2,3,4,5,6,7,8], [2,3,4,5,6,7,8,9], lr 11, lr 12, lr 13] [5,10,12] [5,10,12,47,11405,11406,15705,15706])
  (.seq (.reg [Qf 49 4 5, Ql 50 49, Q 51 (.bin .add (.t 50) (kI 1)), Qf 52 4 12, Qs 1 52 51] [5,10,12] [5,10,12,47,11405,11406,15705,15706])
  (.seq (.seq (.reg [QL 53 7 12, Q 54 (.call 88 [.t 53] [] []), Q 55 (.not (.t 54))] [5,10,12,55] [5,10,12,47,11405,11406,15705,15706])
  (.cond (.t 55) (.seq (.reg [QL 56 7 5, Q 57 (.call 180 [.t 56] [] [(5, 15705), (6, 15706)]), Qs 7 10 57, Qb 11 false] [10,11] [10,47,11405,11406,15705,15706])
  (.ret)) (.skip)))
  (.seq (.reg [QL 58 7 12, Qs 7 10 58, Qb 11 true] [10,11] [10,47,11405,11406,15705,15706])
  (.ret)))))))
def spec_AddMail.m : Fn := { np := 5, body := spec_AddMail.b, res := [.cell 10 true 7, .tmp 11] }
def spec_AddMail.k (M : Nat → Option Body) : Prop := M 81 = some (.code spec_AddMail.m) ∧ spec_BoxOk.k M ∧ spec_MailAt.k M ∧ spec_l01In.k M ∧ spec_l06In.k M ∧ spec_l06Copy.k M ∧ spec_FlagsNew.k M
def spec_Later.b : C := .seq (.reg [Qv 2 0, Qv 3 1, Qb 4 false] [2,3] [2,3])
  (.seq (.seq (.reg [Qf 5 0 2, Ql 6 5, Qf 7 0 3, Ql 8 7, Q 9 (.bin .neq (.t 6) (.t 8))] [2,3,9] [2,3])
  (.cond (.t 9) (.seq (.reg [Qf 10 0 2, Ql 11 10, Qf 12 0 3, Ql 13 12, Q 14 (.bin .gtr (.t 11) (.t 13)), Qm 4 14] [4] [])
  (.ret)) (.skip)))
  (.seq (.reg [Qf 15 1 2, Ql 16 15, Qf 17 1 3, Ql 18 17, Q 19 (.bin .gtr (.t 16) (.t 18)), Qm 4 19] [4] [])
  (.ret)))
def spec_Later.m : Fn := { np := 2, body := spec_Later.b, res := [.tmp 4] }
def spec_Later.k (M : Nat → Option Body) : Prop := M 277 = some (.code spec_Later.m)
def spec_PutReg.b : C := .seq (.reg [Qv 3 0, Qv 5 2, Q 6 (.alloc [.int .i64 0, .int .i64 0, .int .i64 0])] [1,3,5,6] [3,5,6])
  (.seq (.reg [Qm 8 1, QL 9 2 5, Q 10 (.build [.int .i64 0, .int .i64 0, .int .i64 0] [(0, 1, .t 8), (1, 2, .t 9)]), Q 7 (.alloc [.int .i64 0, .int .i64 0, .int .i64 0]), Qs 3 7 10] [3,5,6,7] [3,5,6,7])
  (.seq (.seq (.reg [QL 11 2 5, Qf 12 1 3, QL 13 2 12, Q 14 (.call 277 [.t 11, .t 13] [] []), Q 15 (.not (.t 14)), Qm 16 15, Qg 17 (.load true 3 (.t 7)) 16 false,
    Qg 18 (.call 276 [.t 17] [] []) 16 false, Qg 19 (.not (.t 18)) 16 false, Q 20 (.pick (.t 16) (kB true) (.t 19))] [3,6,7,20] [3,6,7])
  (.cond (.t 20) (.seq (.reg [QL 21 3 3, Qs 3 6 21] [6] [6])
  (.ret)) (.skip)))
  (.seq (.reg [QL 22 3 7, Qs 3 6 22] [6] [6])
  (.ret))))
def spec_PutReg.m : Fn := { np := 3, body := spec_PutReg.b, res := [.cell 6 true 3] }
def spec_PutReg.k (M : Nat → Option Body) : Prop := M 243 = some (.code spec_PutReg.m) ∧ spec_RegOk.k M ∧ spec_Later.k M
def spec_SetFlags.l0 : C := .seq (.seq (.reg [Qm 21 8, Qm 22 7, Q 23 (.len (.t 22)), Q 24 (.bin .lss (.t 21) (.t 23))] [1,5,7,8,24] [5,11100])
  (.cond (.t 24) (.skip) (.exit 0)))
  (.seq (.block 1 (.seq (.reg [Qm 27 1, Qm 28 8, Q 29 (.i2i .u64 (.t 28)), Q 30 (.bin .shr (.t 27) (.t 29)), Q 31 (.bin .rem (.t 30) (kI 2)), Qm 9 31] [1,5,7,8,9] [5,11100])
  (.seq (.reg [Qm 32 7, Qm 33 8, Qa 34 3 32 33, Qf 35 0 34, Ql 36 35, Qm 37 9, Q 38 (.bin .neq (.t 36) (.t 37))] [1,5,7,8,9,38] [5,11100])
  (.cond (.t 38) (.regd [Qm 39 7, Qm 40 8, Qm 41 7, Qm 42 8, Qa 43 3 41 42, QL 44 3 43, Qm 45 9, QL 46 2 5, Q 47 (.call 243 [.t 44, .t 45, .t 46] [] []), Qa 48 3 39 40, Qs 3 48 47] [[], [], [], [], [2,3], [2,3,4], [], [], [2,3,4,5,6,7], lr 9, lr 10] [1,5,7,8] [5,11100]) (.skip)))))
  (.reg [Qm 25 8, Q 26 (.bin .add (.t 25) (kI 1)), Qm 8 26] [1,5,7,8] [5,11100]))
def spec_SetFlags.b : C := .seq (.reg [Qv 5 2, Q 6 (.nil 3)] [0,1,5] [5])
  (.seq (.reg [Qm 10 0, Q 11 (.call 241 [.t 10] [] [(0, 11100)]), Qm 7 11] [0,1,5,7] [5,11100])
  (.seq (.seq (.reg [Qm 12 0, Q 13 (.call 242 [.t 12] [] []), Q 14 (.not (.t 13)), Qm 15 14, Qg 16 (.mv (.t 1)) 15 false, Qg 17 (.call 98 [.t 16, kI 0, kI 7] [] []) 15 false,
    Qg 18 (.not (.t 17)) 15 false, Q 19 (.pick (.t 15) (kB true) (.t 18))] [1,5,7,19] [5,11100])
  (.cond (.t 19) (.seq (.reg [Qm 20 7, Qm 6 20] [6] [6,11100])
  (.ret)) (.skip)))
  (.seq (.seq (.reg [Qi 8 0] [1,5,7,8] [5,11100])
  (.block 0 (.loop spec_SetFlags.l0)))
  (.seq (.reg [Qm 49 7, Qm 6 49] [6] [6,11100])
  (.ret)))))
def spec_SetFlags.m : Fn := { np := 3, body := spec_SetFlags.b, res := [.tmp 6] }
def spec_SetFlags.k (M : Nat → Option Body) : Prop := M 184 = some (.code spec_SetFlags.m) ∧ spec_l01In.k M ∧ spec_l04Copy.k M ∧ spec_FlagsOk.k M ∧ spec_PutReg.k M
def spec_FlagMail.b : C := .seq (.reg [Qv 4 0, Qv 7 3, Q 8 (.alloc [.int .i64 0, .str ⟨#[]⟩, .int .i64 0, .int .i64 0, .int .i64 0, .nils 4, .nils 1]), Qb 9 false] [1,2,4,7,8] [4,7,8,11305,11306])
  (.seq (.reg [QL 12 7 4, Q 13 (.call 180 [.t 12] [] [(5, 11305), (6, 11306)]), Q 10 (.alloc [.int .i64 0, .str ⟨#[]⟩, .int .i64 0, .int .i64 0, .int .i64 0, .nils 4, .nils 1]), Qs 7 10 13] [1,2,4,7,8,10] [4,7,8,10,11305,11306])
  (.seq (.reg [QL 14 7 4, Qm 15 1, Q 16 (.call 91 [.t 14, .t 15] [] []), Qm 11 16] [2,4,7,8,10,11] [4,7,8,10,11305,11306])
  (.seq (.seq (.reg [QL 17 7 4, Q 18 (.call 88 [.t 17] [] []), Q 19 (.not (.t 18)), Qm 20 19, Qg 21 (.mv (.t 11)) 20 false, Qg 22 (.bin .lss (.t 21) (kI 0)) 20 false,
    Q 23 (.pick (.t 20) (kB true) (.t 22)), Qm 24 23, Qg 25 (.mv (.t 2)) 24 false, Qg 26 (.call 98 [.t 25, kI 0, kI 7] [] []) 24 false, Qg 27 (.not (.t 26)) 24 false,
    Q 28 (.pick (.t 24) (kB true) (.t 27)), Qm 29 28, Qg 30 (.load true 2 (.t 7)) 29 false, Qg 31 (.call 183 [.t 30] [] []) 29 false, Qg 32 (.not (.t 31)) 29 false,
    Q 33 (.pick (.t 29) (kB true) (.t 32))] [2,4,7,8,10,11,33] [4,7,8,10,11305,11306])
  (.cond (.t 33) (.seq (.reg [QL 34 7 10, Qs 7 8 34, Qb 9 false] [8,9] [8,11305,11306])
  (.ret)) (.skip)))
  (.seq (.regd [Qf 35 5 10, Ql 36 35, Qm 37 11, Qf 38 5 4, Ql 39 38, Qm 40 11, Qa 41 4 39 40, Qf 42 2 41, Ql 43 42, Qm 44 2, QL 45 2 7, Q 46 (.call 184 [.t 43, .t 44, .t 45] [] []), Qa 47 4 36 37,
    Qf 48 2 47, Qs 1 48 46] [[], [0], [], [], [3], [], [3,4,5], [3,4,5,6], [3,4,5,6,7], [], [], [3,4,5,6,7,8,9,10], lr 12, lr 13, lr 14] [8,10] [8,10,11305,11306])
  (.seq (.reg [QL 49 7 10, Qs 7 8 49, Qb 9 true] [8,9] [8,11305,11306])
  (.ret))))))
def spec_FlagMail.m : Fn := { np := 4, body := spec_FlagMail.b, res := [.cell 8 true 7, .tmp 9] }
def spec_FlagMail.k (M : Nat → Option Body) : Prop := M 84 = some (.code spec_FlagMail.m) ∧ spec_BoxOk.k M ∧ spec_MailAt.k M ∧ spec_l01In.k M ∧ spec_l06Copy.k M ∧ spec_StampOk.k M ∧ spec_SetFlags.k M
def spec_TakeOut.b : C := .seq (.reg [Qv 2 0, Q 4 (.alloc [.int .i64 0, .str ⟨#[]⟩, .int .i64 0, .int .i64 0, .int .i64 0, .nils 4, .nils 1]), Qb 5 false] [1,2,4] [2,4,27,32,38,10905,10906,14300])
  (.seq (.reg [QL 8 7 2, Q 9 (.call 180 [.t 8] [] [(5, 10905), (6, 10906)]), Q 6 (.alloc [.int .i64 0, .str ⟨#[]⟩, .int .i64 0, .int .i64 0, .int .i64 0, .nils 4, .nils 1]), Qs 7 6 9] [1,2,4,6] [2,4,6,27,32,38,10905,10906,14300])
  (.seq (.reg [QL 10 7 2, Qm 11 1, Q 12 (.call 91 [.t 10, .t 11] [] []), Qm 7 12] [1,2,4,6,7] [2,4,6,27,32,38,10905,10906,14300])
  (.seq (.seq (.reg [QL 13 7 2, Q 14 (.call 88 [.t 13] [] []), Q 15 (.not (.t 14)), Qm 16 15, Qg 17 (.mv (.t 7)) 16 false, Qg 18 (.bin .lss (.t 17) (kI 0)) 16 false,
    Q 19 (.pick (.t 16) (kB true) (.t 18)), Qm 20 19, Qg 21 (.faddr 6 (.t 2)) 20 false, Qg 22 (.load false 1 (.t 21)) 20 false, Qg 23 (.len (.t 22)) 20 false,
    Qg 24 (.bin .geq (.t 23) (kI 40)) 20 false, Q 25 (.pick (.t 20) (kB true) (.t 24))] [1,2,4,6,7,25] [2,4,6,27,32,38,10905,10906,14300])
  (.cond (.t 25) (.seq (.reg [QL 26 7 6, Qs 7 4 26, Qb 5 false] [4,5] [4,27,32,38,10905,10906,14300])
  (.ret)) (.skip)))
  (.seq (.regd [Q 27 (.bslice 4 0 [.int .i64 0, .int .i64 0, .nils 3, .str ⟨#[]⟩] []), Qf 28 5 6, Ql 29 28, Qm 30 7, Q 31 (.slc 4 (.t 29) none (some (.t 30)) none),
    Q 32 (.app 4 56 (.t 27) (.t 31)), Qf 33 5 6, Ql 34 33, Qm 35 7, Q 36 (.bin .add (.t 35) (kI 1)), Q 37 (.slc 4 (.t 34) (some (.t 36)) none none), Q 38 (.app 4 56 (.t 32) (.t 37)),
    Qf 39 5 6, Qs 1 39 38] [[], [], [1], [], [1,2,3], lr 5, [], [6], [], [8], [6,7,8,9], lr 11, lr 12, lr 13] [1,2,4,6] [2,4,6,27,32,38,10905,10906,14300])
  (.seq (.reg [Qf 40 6 2, Ql 41 40, Qm 42 1, Q 43 (.call 133 [.t 41, .t 42] [] [(0, 14300)]), Qf 44 6 6, Qs 1 44 43] [4,6] [4,6,27,32,38,10905,10906,14300])
  (.seq (.reg [QL 45 7 6, Qs 7 4 45, Qb 5 true] [4,5] [4,27,32,38,10905,10906,14300])
  (.ret)))))))
def spec_TakeOut.m : Fn := { np := 2, body := spec_TakeOut.b, res := [.cell 4 true 7, .tmp 5] }
def spec_TakeOut.k (M : Nat → Option Body) : Prop := M 86 = some (.code spec_TakeOut.m) ∧ spec_BoxOk.k M ∧ spec_MailAt.k M ∧ spec_l06Put.k M ∧ spec_l06Copy.k M
end Mx

namespace Mx
open Go
def spec_BoxAt.l0 : C := .seq (.seq (.reg [Qm 6 5, Qf 7 2 2, Ql 8 7, Q 9 (.len (.t 8)), Q 10 (.bin .lss (.t 6) (.t 9))] [1,2,5,10] [2])
  (.cond (.t 10) (.skip) (.exit 0)))
  (.seq (.block 1 (.seq (.reg [Qf 13 2 2, Ql 14 13, Qm 15 5, Qa 16 7 14 15, Qf 17 0 16, Ql 18 17, Qm 19 1, Q 20 (.bin .eql (.t 18) (.t 19))] [1,2,5,20] [2])
  (.cond (.t 20) (.seq (.reg [Qm 21 5, Qm 4 21] [4] [])
  (.ret)) (.skip))))
  (.reg [Qm 11 5, Q 12 (.bin .add (.t 11) (kI 1)), Qm 5 12] [1,2,5] [2]))
def spec_BoxAt.b : C := .seq (.reg [Qv 2 0, Qi 4 0] [1,2] [2])
  (.seq (.seq (.reg [Qi 5 0] [1,2,5] [2])
  (.block 0 (.loop spec_BoxAt.l0)))
  (.seq (.reg [Qi 4 (-1)] [4] [])
  (.ret)))
def spec_BoxAt.m : Fn := { np := 2, body := spec_BoxAt.b, res := [.tmp 4] }
def spec_BoxAt.k (M : Nat → Option Body) : Prop := M 196 = some (.code spec_BoxAt.m)
def spec_Knows.l0 : C := .seq (.seq (.reg [Qm 16 5, Qf 17 2 2, Ql 18 17, Q 19 (.len (.t 18)), Q 20 (.bin .lss (.t 16) (.t 19))] [1,2,5,20] [2])
  (.cond (.t 20) (.skip) (.exit 0)))
  (.seq (.block 1 (.seq (.reg [Qf 23 2 2, Ql 24 23, Qm 25 5, Qa 26 7 24 25, QL 27 7 26, Qm 28 1, Q 29 (.call 91 [.t 27, .t 28] [] []), Q 30 (.bin .geq (.t 29) (kI 0)), Qm 31 30, Qg 32 (.faddr 2 (.t 2)) 31 false,
    Qg 33 (.load false 1 (.t 32)) 31 false, Qg 34 (.mv (.t 5)) 31 false, Qg 35 (.iaddr 7 (.t 33) (.t 34)) 31 false, Qg 36 (.faddr 6 (.t 35)) 31 false,
    Qg 37 (.load false 1 (.t 36)) 31 false, Qg 38 (.mv (.t 1)) 31 false, Qg 39 (.call 132 [.t 37, .t 38] [] []) 31 false, Q 40 (.pick (.t 31) (kB true) (.t 39))] [1,2,5,40] [2])
  (.cond (.t 40) (.seq (.reg [Qb 4 true] [4] [])
  (.ret)) (.skip))))
  (.reg [Qm 21 5, Q 22 (.bin .add (.t 21) (kI 1)), Qm 5 22] [1,2,5] [2]))
def spec_Knows.b : C := .seq (.reg [Qv 2 0, Qb 4 false] [1,2] [2])
  (.seq (.seq (.reg [QL 6 4 2, Qm 7 1, Q 8 (.call 196 [.t 6, .t 7] [] []), Q 9 (.bin .geq (.t 8) (kI 0)), Qm 10 9, Qg 11 (.faddr 3 (.t 2)) 10 false, Qg 12 (.load false 1 (.t 11)) 10 false,
    Qg 13 (.mv (.t 1)) 10 false, Qg 14 (.call 132 [.t 12, .t 13] [] []) 10 false, Q 15 (.pick (.t 10) (kB true) (.t 14))] [1,2,15] [2])
  (.cond (.t 15) (.seq (.reg [Qb 4 true] [4] [])
  (.ret)) (.skip)))
  (.seq (.seq (.reg [Qi 5 0] [1,2,5] [2])
  (.block 0 (.loop spec_Knows.l0)))
  (.seq (.reg [Qb 4 false] [4] [])
  (.ret))))
def spec_Knows.m : Fn := { np := 2, body := spec_Knows.b, res := [.tmp 4] }
def spec_Knows.k (M : Nat → Option Body) : Prop := M 300 = some (.code spec_Knows.m) ∧ spec_MailAt.k M ∧ spec_l06In.k M ∧ spec_BoxAt.k M
def spec_NextStamp.b : C := .seq (.reg [Qv 1 0, Q 2 (.alloc [.int .i64 0, .int .i64 0])] [1,2] [1,2])
  (.seq (.reg [Qf 3 1 1, Ql 4 3, Q 5 (.bin .add (.t 4) (kI 1)), Qf 6 0 1, Ql 7 6, Q 8 (.build [.int .i64 0, .int .i64 0] [(0, 1, .t 5), (1, 1, .t 7)]), Qs 2 2 8] [2] [2])
  (.ret))
def spec_NextStamp.m : Fn := { np := 1, body := spec_NextStamp.b, res := [.cell 2 true 2] }
def spec_NextStamp.k (M : Nat → Option Body) : Prop := M 301 = some (.code spec_NextStamp.m)
def spec_l07Copy.l0 : C := .seq (.seq (.reg [Qm 8 4, Qf 9 2 1, Ql 10 9, Q 11 (.len (.t 10)), Q 12 (.bin .lss (.t 8) (.t 11))] [1,2,3,4,12] [1,2,3,6,24,26,29])
  (.cond (.t 12) (.skip) (.exit 0)))
  (.seq (.block 1 (.regd [Qf 15 2 3, Ql 16 15, Qf 17 2 1, Ql 18 17, Qm 19 4, Qa 20 7 18 19, QL 21 7 20, Q 22 (.call 180 [.t 21] [] []),
    Q 23 (.bslice 7 1 [.int .i64 0, .str ⟨#[]⟩, .int .i64 0, .int .i64 0, .int .i64 0, .nils 4, .nils 1] [(0, .t 22)]), Q 24 (.app 7 96 (.t 16) (.t 23)), Qf 25 2 3, Qs 1 25 24] [[], [0], [], [2], [], [2,3,4], [2,3,4,5], [2,3,4,5,6], [2,3,4,5,6,7], lr 9, lr 10, lr 11] [1,2,3,4] [1,2,3,6,24,26,29]))
  (.reg [Qm 13 4, Q 14 (.bin .add (.t 13) (kI 1)), Qm 4 14] [1,2,3,4] [1,2,3,6,24,26,29]))
def spec_l07Copy.b : C := .seq (.reg [Qv 1 0, Q 2 (.alloc [.int .i64 0, .int .i64 0, .nils 7, .nils 1])] [1,2] [1,2,6,24,26,29])
  (.seq (.reg [QL 5 4 1, Q 3 (.alloc [.int .i64 0, .int .i64 0, .nils 7, .nils 1]), Qs 4 3 5] [1,2,3] [1,2,3,6,24,26,29])
  (.seq (.reg [Q 6 (.bslice 7 0 [.int .i64 0, .str ⟨#[]⟩, .int .i64 0, .int .i64 0, .int .i64 0, .nils 4, .nils 1] []), Qf 7 2 3, Qs 1 7 6] [1,2,3] [1,2,3,6,24,26,29])
  (.seq (.seq (.reg [Qi 4 0] [1,2,3,4] [1,2,3,6,24,26,29])
  (.block 0 (.loop spec_l07Copy.l0)))
  (.seq (.reg [Q 26 (.bslice 1 0 [.int .i64 0] []), Qf 27 3 1, Ql 28 27, Q 29 (.app 1 8 (.t 26) (.t 28)), Qf 30 3 3, Qs 1 30 29] [2,3] [2,3,6,24,26,29])
  (.seq (.reg [QL 31 4 3, Qs 4 2 31] [2] [2,6,24,26,29])
  (.ret))))))
def spec_l07Copy.m : Fn := { np := 1, body := spec_l07Copy.b, res := [.cell 2 true 4] }
def spec_l07Copy.k (M : Nat → Option Body) : Prop := M 219 = some (.code spec_l07Copy.m) ∧ spec_l06Copy.k M
def spec_MakeBox.l0 : C := .seq (.seq (.reg [Qm 37 10, Qf 38 2 3, Ql 39 38, Q 40 (.len (.t 39)), Q 41 (.bin .lss (.t 37) (.t 40))] [1,3,6,8,9,10,41] [3,6,8,9,30,61,67,93,12702,12703,12902,12903,20302,20303])
  (.cond (.t 41) (.skip) (.exit 0)))
  (.seq (.block 1 (.seq (.reg [Qf 44 2 3, Ql 45 44, Qm 46 10, Qa 47 7 45 46, Qf 48 0 47, Ql 49 48, Qm 50 1, Q 51 (.bin .lss (.t 49) (.t 50))] [1,3,6,8,9,10,51] [3,6,8,9,30,61,67,93,12702,12703,12902,12903,20302,20303])
  (.cond (.t 51) (.regd [Qf 52 2 8, Ql 53 52, Qf 54 2 3, Ql 55 54, Qm 56 10, Qa 57 7 55 56, QL 58 7 57, Q 59 (.call 180 [.t 58] [] []),
    Q 60 (.bslice 7 1 [.int .i64 0, .str ⟨#[]⟩, .int .i64 0, .int .i64 0, .int .i64 0, .nils 4, .nils 1] [(0, .t 59)]), Q 61 (.app 7 96 (.t 53) (.t 60)), Qf 62 2 8, Qs 1 62 61] [[], [0], [], [2], [], [2,3,4], [2,3,4,5], [2,3,4,5,6], [2,3,4,5,6,7], lr 9, lr 10, lr 11] [1,3,6,8,9,10] [3,6,8,9,30,61,67,93,12702,12703,12902,12903,20302,20303]) (.skip))))
  (.reg [Qm 42 10, Q 43 (.bin .add (.t 42) (kI 1)), Qm 10 43] [1,3,6,8,9,10] [3,6,8,9,30,61,67,93,12702,12703,12902,12903,20302,20303]))
def spec_MakeBox.l1 : C := .seq (.seq (.reg [Qm 69 11, Qf 70 2 3, Ql 71 70, Q 72 (.len (.t 71)), Q 73 (.bin .lss (.t 69) (.t 72))] [1,3,6,8,11,73] [3,6,8,30,61,67,93,12702,12703,12902,12903,20302,20303])
  (.cond (.t 73) (.skip) (.exit 2)))
  (.seq (.block 3 (.seq (.reg [Qf 76 2 3, Ql 77 76, Qm 78 11, Qa 79 7 77 78, Qf 80 0 79, Ql 81 80, Qm 82 1, Q 83 (.bin .gtr (.t 81) (.t 82))] [1,3,6,8,11,83] [3,6,8,30,61,67,93,12702,12703,12902,12903,20302,20303])
  (.cond (.t 83) (.regd [Qf 84 2 8, Ql 85 84, Qf 86 2 3, Ql 87 86, Qm 88 11, Qa 89 7 87 88, QL 90 7 89, Q 91 (.call 180 [.t 90] [] []),
    Q 92 (.bslice 7 1 [.int .i64 0, .str ⟨#[]⟩, .int .i64 0, .int .i64 0, .int .i64 0, .nils 4, .nils 1] [(0, .t 91)]), Q 93 (.app 7 96 (.t 85) (.t 92)), Qf 94 2 8, Qs 1 94 93] [[], [0], [], [2], [], [2,3,4], [2,3,4,5], [2,3,4,5,6], [2,3,4,5,6,7], lr 9, lr 10, lr 11] [1,3,6,8,11] [3,6,8,30,61,67,93,12702,12703,12902,12903,20302,20303]) (.skip))))
  (.reg [Qm 74 11, Q 75 (.bin .add (.t 74) (kI 1)), Qm 11 75] [1,3,6,8,11] [3,6,8,30,61,67,93,12702,12703,12902,12903,20302,20303]))
def spec_MakeBox.b : C := .seq (.reg [Qv 3 0, Q 6 (.alloc [.int .i64 0, .int .i64 0, .nils 7, .nils 1]), Qb 7 false] [1,2,3,6] [3,6,30,61,67,93,12702,12703,12902,12903,20302,20303])
  (.seq (.seq (.reg [QL 12 4 3, Q 13 (.call 149 [.t 12] [] []), Q 14 (.not (.t 13)), Qm 15 14, Qg 16 (.load true 4 (.t 3)) 15 false, Qg 17 (.mv (.t 1)) 15 false,
    Qg 18 (.call 300 [.t 16, .t 17] [] []) 15 false, Q 19 (.pick (.t 15) (kB true) (.t 18)), Qm 20 19, Qg 21 (.load true 4 (.t 3)) 20 false, Qg 22 (.mv (.t 2)) 20 false,
    Qg 23 (.call 226 [.t 21, .t 22] [] []) 20 false, Qg 24 (.bin .geq (.t 23) (kI 0)) 20 false, Q 25 (.pick (.t 20) (kB true) (.t 24))] [1,2,3,6,25] [3,6,30,61,67,93,12702,12703,12902,12903,20302,20303])
  (.cond (.t 25) (.seq (.reg [QL 26 4 3, Q 27 (.call 219 [.t 26] [] [(2, 12702), (3, 12703)]), Qs 4 6 27, Qb 7 false] [6,7] [6,30,61,67,93,12702,12703,12902,12903,20302,20303])
  (.ret)) (.skip)))
  (.seq (.reg [QL 28 4 3, Q 29 (.call 219 [.t 28] [] [(2, 12902), (3, 12903)]), Q 8 (.alloc [.int .i64 0, .int .i64 0, .nils 7, .nils 1]), Qs 4 8 29] [1,2,3,6,8] [3,6,8,30,61,67,93,12702,12703,12902,12903,20302,20303])
  (.seq (.reg [Q 30 (.bslice 7 0 [.int .i64 0, .str ⟨#[]⟩, .int .i64 0, .int .i64 0, .int .i64 0, .nils 4, .nils 1] []), Qf 31 2 8, Qs 1 31 30] [1,2,3,6,8] [3,6,8,30,61,67,93,12702,12703,12902,12903,20302,20303])
  (.seq (.reg [Qm 32 1, Qm 33 2, QL 34 4 3, Q 35 (.call 301 [.t 34] [] []),
    Q 36 (.build [.int .i64 0, .str ⟨#[]⟩, .int .i64 0, .int .i64 0, .int .i64 0, .nils 4, .nils 1] [(0, 1, .t 32), (1, 1, .t 33), (2, 2, .t 35), (4, 1, kI 1)]),
    Q 9 (.alloc [.int .i64 0, .str ⟨#[]⟩, .int .i64 0, .int .i64 0, .int .i64 0, .nils 4, .nils 1]), Qs 7 9 36] [1,3,6,8,9] [3,6,8,9,30,61,67,93,12702,12703,12902,12903,20302,20303])
  (.seq (.seq (.reg [Qi 10 0] [1,3,6,8,9,10] [3,6,8,9,30,61,67,93,12702,12703,12902,12903,20302,20303])
  (.block 0 (.loop spec_MakeBox.l0)))
  (.seq (.reg [Qf 63 2 8, Ql 64 63, QL 65 7 9, Q 66 (.bslice 7 1 [.int .i64 0, .str ⟨#[]⟩, .int .i64 0, .int .i64 0, .int .i64 0, .nils 4, .nils 1] [(0, .t 65)]), Q 67 (.app 7 96 (.t 64) (.t 66)),
    Qf 68 2 8, Qs 1 68 67] [1,3,6,8] [3,6,8,30,61,67,93,12702,12703,12902,12903,20302,20303])
  (.seq (.seq (.reg [Qi 11 0] [1,3,6,8,11] [3,6,8,30,61,67,93,12702,12703,12902,12903,20302,20303])
  (.block 2 (.loop spec_MakeBox.l1)))
  (.seq (.reg [Qf 95 1 3, Ql 96 95, Q 97 (.bin .add (.t 96) (kI 1)), Qf 98 1 8, Qs 1 98 97] [3,6,8] [3,6,8,30,61,67,93,12702,12703,12902,12903,20302,20303])
  (.seq (.seq (.reg [QL 99 4 8, Q 100 (.call 149 [.t 99] [] []), Q 101 (.not (.t 100))] [3,6,8,101] [3,6,8,30,61,67,93,12702,12703,12902,12903,20302,20303])
  (.cond (.t 101) (.seq (.reg [QL 102 4 3, Q 103 (.call 219 [.t 102] [] [(2, 20302), (3, 20303)]), Qs 4 6 103, Qb 7 false] [6,7] [6,30,61,67,93,12702,12703,12902,12903,20302,20303])
  (.ret)) (.skip)))
  (.seq (.reg [QL 104 4 8, Qs 4 6 104, Qb 7 true] [6,7] [6,30,61,67,93,12702,12703,12902,12903,20302,20303])
  (.ret)))))))))))
def spec_MakeBox.m : Fn := { np := 3, body := spec_MakeBox.b, res := [.cell 6 true 4, .tmp 7] }
def spec_MakeBox.k (M : Nat → Option Body) : Prop := M 278 = some (.code spec_MakeBox.m) ∧ spec_StoreOk.k M ∧ spec_l06Copy.k M ∧ spec_l07Copy.k M ∧ spec_BoxNamed.k M ∧ spec_Knows.k M ∧ spec_NextStamp.k M
def spec_RenameBox.b : C := .seq (.reg [Qv 3 0, Q 6 (.alloc [.int .i64 0, .int .i64 0, .nils 7, .nils 1]), Qb 7 false] [1,2,3,6] [3,6,11102,11103,15002,15003])
  (.seq (.reg [QL 10 4 3, Q 11 (.call 219 [.t 10] [] [(2, 11102), (3, 11103)]), Q 8 (.alloc [.int .i64 0, .int .i64 0, .nils 7, .nils 1]), Qs 4 8 11] [1,2,3,6,8] [3,6,8,11102,11103,15002,15003])
  (.seq (.reg [QL 12 4 3, Qm 13 1, Q 14 (.call 196 [.t 12, .t 13] [] []), Qm 9 14] [2,3,6,8,9] [3,6,8,11102,11103,15002,15003])
  (.seq (.seq (.reg [QL 15 4 3, Q 16 (.call 149 [.t 15] [] []), Q 17 (.not (.t 16)), Qm 18 17, Qg 19 (.mv (.t 9)) 18 false, Qg 20 (.bin .lss (.t 19) (kI 0)) 18 false,
    Q 21 (.pick (.t 18) (kB true) (.t 20)), Qm 22 21, Qg 23 (.load true 4 (.t 3)) 22 false, Qg 24 (.mv (.t 2)) 22 false, Qg 25 (.call 226 [.t 23, .t 24] [] []) 22 false,
    Qg 26 (.bin .geq (.t 25) (kI 0)) 22 false, Q 27 (.pick (.t 22) (kB true) (.t 26))] [2,3,6,8,9,27] [3,6,8,11102,11103,15002,15003])
  (.cond (.t 27) (.seq (.reg [QL 28 4 8, Qs 4 6 28, Qb 7 false] [6,7] [6,11102,11103,15002,15003])
  (.ret)) (.skip)))
  (.seq (.reg [Qf 29 2 8, Ql 30 29, Qm 31 9, Qm 32 2, Qa 33 7 30 31, Qf 34 1 33, Qs 1 34 32] [3,6,8,9] [3,6,8,11102,11103,15002,15003])
  (.seq (.regd [Qf 35 2 8, Ql 36 35, Qm 37 9, QL 38 4 3, Q 39 (.call 301 [.t 38] [] []), Qa 40 7 36 37, Qf 41 2 40, Qs 2 41 39] [[], [0], [], [], [3], lr 5, lr 6, lr 7] [3,6,8] [3,6,8,11102,11103,15002,15003])
  (.seq (.reg [Qf 42 1 3, Ql 43 42, Q 44 (.bin .add (.t 43) (kI 1)), Qf 45 1 8, Qs 1 45 44] [3,6,8] [3,6,8,11102,11103,15002,15003])
  (.seq (.seq (.reg [QL 46 4 8, Q 47 (.call 149 [.t 46] [] []), Q 48 (.not (.t 47))] [3,6,8,48] [3,6,8,11102,11103,15002,15003])
  (.cond (.t 48) (.seq (.reg [QL 49 4 3, Q 50 (.call 219 [.t 49] [] [(2, 15002), (3, 15003)]), Qs 4 6 50, Qb 7 false] [6,7] [6,11102,11103,15002,15003])
  (.ret)) (.skip)))
  (.seq (.reg [QL 51 4 8, Qs 4 6 51, Qb 7 true] [6,7] [6,11102,11103,15002,15003])
  (.ret)))))))))
def spec_RenameBox.m : Fn := { np := 3, body := spec_RenameBox.b, res := [.cell 6 true 4, .tmp 7] }
def spec_RenameBox.k (M : Nat → Option Body) : Prop := M 282 = some (.code spec_RenameBox.m) ∧ spec_StoreOk.k M ∧ spec_BoxAt.k M ∧ spec_l07Copy.k M ∧ spec_BoxNamed.k M ∧ spec_NextStamp.k M
def spec_DropBox.b : C := .seq (.reg [Qv 2 0, Q 4 (.alloc [.int .i64 0, .int .i64 0, .nils 7, .nils 1]), Qb 5 false] [1,2,4] [2,4,27,32,38,10902,10903,14300])
  (.seq (.reg [QL 8 4 2, Q 9 (.call 219 [.t 8] [] [(2, 10902), (3, 10903)]), Q 6 (.alloc [.int .i64 0, .int .i64 0, .nils 7, .nils 1]), Qs 4 6 9] [1,2,4,6] [2,4,6,27,32,38,10902,10903,14300])
  (.seq (.reg [QL 10 4 2, Qm 11 1, Q 12 (.call 196 [.t 10, .t 11] [] []), Qm 7 12] [1,2,4,6,7] [2,4,6,27,32,38,10902,10903,14300])
  (.seq (.seq (.reg [QL 13 4 2, Q 14 (.call 149 [.t 13] [] []), Q 15 (.not (.t 14)), Qm 16 15, Qg 17 (.mv (.t 7)) 16 false, Qg 18 (.bin .lss (.t 17) (kI 0)) 16 false,
    Q 19 (.pick (.t 16) (kB true) (.t 18)), Qm 20 19, Qg 21 (.faddr 3 (.t 2)) 20 false, Qg 22 (.load false 1 (.t 21)) 20 false, Qg 23 (.len (.t 22)) 20 false,
    Qg 24 (.bin .geq (.t 23) (kI 20)) 20 false, Q 25 (.pick (.t 20) (kB true) (.t 24))] [1,2,4,6,7,25] [2,4,6,27,32,38,10902,10903,14300])
  (.cond (.t 25) (.seq (.reg [QL 26 4 6, Qs 4 4 26, Qb 5 false] [4,5] [4,27,32,38,10902,10903,14300])
  (.ret)) (.skip)))
  (.seq (.regd [Q 27 (.bslice 7 0 [.int .i64 0, .str ⟨#[]⟩, .int .i64 0, .int .i64 0, .int .i64 0, .nils 4, .nils 1] []), Qf 28 2 6, Ql 29 28, Qm 30 7,
    Q 31 (.slc 7 (.t 29) none (some (.t 30)) none), Q 32 (.app 7 96 (.t 27) (.t 31)), Qf 33 2 6, Ql 34 33, Qm 35 7, Q 36 (.bin .add (.t 35) (kI 1)),
    Q 37 (.slc 7 (.t 34) (some (.t 36)) none none), Q 38 (.app 7 96 (.t 32) (.t 37)), Qf 39 2 6, Qs 1 39 38] [[], [], [1], [], [1,2,3], lr 5, [], [6], [], [8], [6,7,8,9], lr 11, lr 12, lr 13] [1,2,4,6] [2,4,6,27,32,38,10902,10903,14300])
  (.seq (.reg [Qf 40 3 2, Ql 41 40, Qm 42 1, Q 43 (.call 133 [.t 41, .t 42] [] [(0, 14300)]), Qf 44 3 6, Qs 1 44 43] [4,6] [4,6,27,32,38,10902,10903,14300])
  (.seq (.reg [QL 45 4 6, Qs 4 4 45, Qb 5 true] [4,5] [4,27,32,38,10902,10903,14300])
  (.ret)))))))
def spec_DropBox.m : Fn := { np := 2, body := spec_DropBox.b, res := [.cell 4 true 4, .tmp 5] }
def spec_DropBox.k (M : Nat → Option Body) : Prop := M 283 = some (.code spec_DropBox.m) ∧ spec_l06Put.k M ∧ spec_StoreOk.k M ∧ spec_BoxAt.k M ∧ spec_l07Copy.k M
def spec_l07Stamped.b : C := .seq (.reg [Qv 3 0, Qv 5 2, Q 6 (.alloc [.int .i64 0, .int .i64 0, .nils 7, .nils 1]), Qb 7 false] [1,3,5,6] [3,5,6,11002,11003,12402,12403])
  (.seq (.reg [QL 9 4 3, Q 10 (.call 219 [.t 9] [] [(2, 11002), (3, 11003)]), Q 8 (.alloc [.int .i64 0, .int .i64 0, .nils 7, .nils 1]), Qs 4 8 10] [1,3,5,6,8] [3,5,6,8,11002,11003,12402,12403])
  (.seq (.reg [Qf 11 2 8, Ql 12 11, Qm 13 1, QL 14 7 5, Qa 15 7 12 13, Qs 7 15 14] [3,6,8] [3,6,8,11002,11003,12402,12403])
  (.seq (.reg [Qf 16 1 3, Ql 17 16, Q 18 (.bin .add (.t 17) (kI 1)), Qf 19 1 8, Qs 1 19 18] [3,6,8] [3,6,8,11002,11003,12402,12403])
  (.seq (.seq (.reg [QL 20 4 8, Q 21 (.call 149 [.t 20] [] []), Q 22 (.not (.t 21))] [3,6,8,22] [3,6,8,11002,11003,12402,12403])
  (.cond (.t 22) (.seq (.reg [QL 23 4 3, Q 24 (.call 219 [.t 23] [] [(2, 12402), (3, 12403)]), Qs 4 6 24, Qb 7 false] [6,7] [6,11002,11003,12402,12403])
  (.ret)) (.skip)))
  (.seq (.reg [QL 25 4 8, Qs 4 6 25, Qb 7 true] [6,7] [6,11002,11003,12402,12403])
  (.ret))))))
def spec_l07Stamped.m : Fn := { np := 3, body := spec_l07Stamped.b, res := [.cell 6 true 4, .tmp 7] }
def spec_l07Stamped.k (M : Nat → Option Body) : Prop := M 302 = some (.code spec_l07Stamped.m) ∧ spec_StoreOk.k M ∧ spec_l07Copy.k M
def spec_PutMail.b : C := .seq (.reg [Qv 5 0, Q 10 (.alloc [.int .i64 0, .int .i64 0, .nils 7, .nils 1]), Qb 11 false] [1,2,3,4,5,10] [5,10,13102,13103,14902,14903,15302,15303])
  (.seq (.reg [QL 15 4 5, Qm 16 1, Q 17 (.call 196 [.t 15, .t 16] [] []), Qm 12 17] [2,3,4,5,10,12] [5,10,13102,13103,14902,14903,15302,15303])
  (.seq (.seq (.reg [QL 18 4 5, Q 19 (.call 149 [.t 18] [] []), Q 20 (.not (.t 19)), Qm 21 20, Qg 22 (.load true 4 (.t 5)) 21 false, Qg 23 (.mv (.t 2)) 21 false,
    Qg 24 (.call 300 [.t 22, .t 23] [] []) 21 false, Q 25 (.pick (.t 21) (kB true) (.t 24)), Qm 26 25, Qg 27 (.mv (.t 12)) 26 false, Qg 28 (.bin .lss (.t 27) (kI 0)) 26 false,
    Q 29 (.pick (.t 26) (kB true) (.t 28))] [2,3,4,5,10,12,29] [5,10,13102,13103,14902,14903,15302,15303])
  (.cond (.t 29) (.seq (.reg [QL 30 4 5, Q 31 (.call 219 [.t 30] [] [(2, 13102), (3, 13103)]), Qs 4 10 31, Qb 11 false] [10,11] [10,13102,13103,14902,14903,15302,15303])
  (.ret)) (.skip)))
  (.seq (.regd [Qf 33 2 5, Ql 34 33, Qm 35 12, Qa 36 7 34 35, QL 37 7 36, Qm 38 2, Qm 39 3, Qm 40 4, QL 41 4 5, Q 42 (.call 301 [.t 41] [] []),
    Q 43 (.call 81 [.t 37, .t 38, .t 39, .t 40, .t 42] [] []), Qm 32 43, Qx 44 0 32, Qx 45 1 32,
    Q 13 (.alloc [.int .i64 0, .str ⟨#[]⟩, .int .i64 0, .int .i64 0, .int .i64 0, .nils 4, .nils 1]), Qs 7 13 44, Qm 14 45] [[], [0], [], [0,1,2], lr 4, [], [], [], [], [8], lr 10, lr 11, lr 12, lr 12, [], lr 13 ++ [14], lr 16] [5,10,12,13,14] [5,10,13,13102,13103,14902,14903,15302,15303])
  (.seq (.seq (.reg [Qm 46 14, Q 47 (.not (.t 46))] [5,10,12,13,47] [5,10,13,13102,13103,14902,14903,15302,15303])
  (.cond (.t 47) (.seq (.reg [QL 48 4 5, Q 49 (.call 219 [.t 48] [] [(2, 14902), (3, 14903)]), Qs 4 10 49, Qb 11 false] [10,11] [10,13102,13103,14902,14903,15302,15303])
  (.ret)) (.skip)))
  (.seq (.reg [QL 50 4 5, Qm 51 12, QL 52 7 13, Q 53 (.call 302 [.t 50, .t 51, .t 52] [] [(2, 15302), (3, 15303)]), Qx 54 0 53, Qx 55 1 53, Qs 4 10 54, Qm 11 55] [10,11] [10,13102,13103,14902,14903,15302,15303])
  (.ret))))))
def spec_PutMail.m : Fn := { np := 5, body := spec_PutMail.b, res := [.cell 10 true 4, .tmp 11] }
def spec_PutMail.k (M : Nat → Option Body) : Prop := M 279 = some (.code spec_PutMail.m) ∧ spec_AddMail.k M ∧ spec_StoreOk.k M ∧ spec_BoxAt.k M ∧ spec_l07Copy.k M ∧ spec_Knows.k M ∧ spec_NextStamp.k M ∧ spec_l07Stamped.k M
def spec_MarkMail.b : C := .seq (.reg [Qv 4 0, Q 8 (.alloc [.int .i64 0, .int .i64 0, .nils 7, .nils 1]), Qb 9 false] [1,2,3,4,8] [4,8,12402,12403,14102,14103,14502,14503])
  (.seq (.reg [QL 13 4 4, Qm 14 1, Q 15 (.call 196 [.t 13, .t 14] [] []), Qm 10 15] [2,3,4,8,10] [4,8,12402,12403,14102,14103,14502,14503])
  (.seq (.seq (.reg [QL 16 4 4, Q 17 (.call 149 [.t 16] [] []), Q 18 (.not (.t 17)), Qm 19 18, Qg 20 (.mv (.t 10)) 19 false, Qg 21 (.bin .lss (.t 20) (kI 0)) 19 false,
    Q 22 (.pick (.t 19) (kB true) (.t 21))] [2,3,4,8,10,22] [4,8,12402,12403,14102,14103,14502,14503])
  (.cond (.t 22) (.seq (.reg [QL 23 4 4, Q 24 (.call 219 [.t 23] [] [(2, 12402), (3, 12403)]), Qs 4 8 24, Qb 9 false] [8,9] [8,12402,12403,14102,14103,14502,14503])
  (.ret)) (.skip)))
  (.seq (.regd [Qf 26 2 4, Ql 27 26, Qm 28 10, Qa 29 7 27 28, QL 30 7 29, Qm 31 2, Qm 32 3, QL 33 4 4, Q 34 (.call 301 [.t 33] [] []), Q 35 (.call 84 [.t 30, .t 31, .t 32, .t 34] [] []), Qm 25 35,
    Qx 36 0 25, Qx 37 1 25, Q 11 (.alloc [.int .i64 0, .str ⟨#[]⟩, .int .i64 0, .int .i64 0, .int .i64 0, .nils 4, .nils 1]), Qs 7 11 36, Qm 12 37] [[], [0], [], [0,1,2], lr 4, [], [], [], [7], lr 9, lr 10, lr 11, lr 11, [], lr 12 ++ [13], lr 15] [4,8,10,11,12] [4,8,11,12402,12403,14102,14103,14502,14503])
  (.seq (.seq (.reg [Qm 38 12, Q 39 (.not (.t 38))] [4,8,10,11,39] [4,8,11,12402,12403,14102,14103,14502,14503])
  (.cond (.t 39) (.seq (.reg [QL 40 4 4, Q 41 (.call 219 [.t 40] [] [(2, 14102), (3, 14103)]), Qs 4 8 41, Qb 9 false] [8,9] [8,12402,12403,14102,14103,14502,14503])
  (.ret)) (.skip)))
  (.seq (.reg [QL 42 4 4, Qm 43 10, QL 44 7 11, Q 45 (.call 302 [.t 42, .t 43, .t 44] [] [(2, 14502), (3, 14503)]), Qx 46 0 45, Qx 47 1 45, Qs 4 8 46, Qm 9 47] [8,9] [8,12402,12403,14102,14103,14502,14503])
  (.ret))))))
def spec_MarkMail.m : Fn := { np := 4, body := spec_MarkMail.b, res := [.cell 8 true 4, .tmp 9] }
def spec_MarkMail.k (M : Nat → Option Body) : Prop := M 280 = some (.code spec_MarkMail.m) ∧ spec_FlagMail.k M ∧ spec_StoreOk.k M ∧ spec_BoxAt.k M ∧ spec_l07Copy.k M ∧ spec_NextStamp.k M ∧ spec_l07Stamped.k M
def spec_DropMail.b : C := .seq (.reg [Qv 3 0, Q 6 (.alloc [.int .i64 0, .int .i64 0, .nils 7, .nils 1]), Qb 7 false] [1,2,3,6] [3,6,11302,11303])
  (.seq (.reg [QL 12 4 3, Q 13 (.call 219 [.t 12] [] [(2, 11302), (3, 11303)]), Q 8 (.alloc [.int .i64 0, .int .i64 0, .nils 7, .nils 1]), Qs 4 8 13] [1,2,3,6,8] [3,6,8,11302,11303])
  (.seq (.reg [QL 14 4 3, Qm 15 1, Q 16 (.call 196 [.t 14, .t 15] [] []), Qm 9 16] [2,3,6,8,9] [3,6,8,11302,11303])
  (.seq (.seq (.reg [QL 17 4 3, Q 18 (.call 149 [.t 17] [] []), Q 19 (.not (.t 18)), Qm 20 19, Qg 21 (.mv (.t 9)) 20 false, Qg 22 (.bin .lss (.t 21) (kI 0)) 20 false,
    Q 23 (.pick (.t 20) (kB true) (.t 22))] [2,3,6,8,9,23] [3,6,8,11302,11303])
  (.cond (.t 23) (.seq (.reg [QL 24 4 8, Qs 4 6 24, Qb 7 false] [6,7] [6,11302,11303])
  (.ret)) (.skip)))
  (.seq (.reg [Qf 26 2 3, Ql 27 26, Qm 28 9, Qa 29 7 27 28, QL 30 7 29, Qm 31 2, Q 32 (.call 86 [.t 30, .t 31] [] []), Qm 25 32, Qx 33 0 25, Qx 34 1 25,
    Q 10 (.alloc [.int .i64 0, .str ⟨#[]⟩, .int .i64 0, .int .i64 0, .int .i64 0, .nils 4, .nils 1]), Qs 7 10 33, Qm 11 34] [6,8,9,10,11] [6,8,10,11302,11303])
  (.seq (.seq (.reg [Qm 35 11, Q 36 (.not (.t 35))] [6,8,9,10,36] [6,8,10,11302,11303])
  (.cond (.t 36) (.seq (.reg [QL 37 4 8, Qs 4 6 37, Qb 7 false] [6,7] [6,11302,11303])
  (.ret)) (.skip)))
  (.seq (.reg [Qf 38 2 8, Ql 39 38, Qm 40 9, QL 41 7 10, Qa 42 7 39 40, Qs 7 42 41] [6,8] [6,8,11302,11303])
  (.seq (.reg [QL 43 4 8, Qs 4 6 43, Qb 7 true] [6,7] [6,11302,11303])
  (.ret))))))))
def spec_DropMail.m : Fn := { np := 3, body := spec_DropMail.b, res := [.cell 6 true 4, .tmp 7] }
def spec_DropMail.k (M : Nat → Option Body) : Prop := M 281 = some (.code spec_DropMail.m) ∧ spec_TakeOut.k M ∧ spec_StoreOk.k M ∧ spec_BoxAt.k M ∧ spec_l07Copy.k M
end Mx

namespace Mx
open Go
def spec_l01New.l0 : C := .seq (.seq (.reg [Qm 8 4, Qm 9 0, Q 10 (.len (.t 9)), Q 11 (.bin .lss (.t 8) (.t 10)), Qm 12 11, Qg 13 (.mv (.t 4)) 12 true, Qg 14 (.bin .lss (.t 13) (kI 4000)) 12 true,
    Q 15 (.pick (.t 12) (.t 14) (kB false))] [0,3,4,15] [])
  (.cond (.t 15) (.skip) (.exit 0)))
  (.seq (.block 1 (.reg [Qm 18 3, Q 19 (.bin .mul (.t 18) (kI 131)), Qm 20 0, Qm 21 4, Qa 22 1 20 21, Ql 23 22, Q 24 (.i2i .i64 (.t 23)), Q 25 (.bin .add (.t 19) (.t 24)), Q 26 (.bin .add (.t 25) (kI 7)),
    Q 27 (.bin .and (.t 26) (kI 1073741823)), Qm 3 27] [0,3,4] []))
  (.reg [Qm 16 4, Q 17 (.bin .add (.t 16) (kI 1)), Qm 4 17] [0,3,4] []))
def spec_l01New.b : C := .seq (.reg [Q 2 (.np)] [0] [])
  (.seq (.reg [Qm 5 0, Q 6 (.len (.t 5)), Q 7 (.bin .add (kI 77201) (.t 6)), Qm 3 7] [0,3] [])
  (.seq (.seq (.reg [Qi 4 0] [0,3,4] [])
  (.block 0 (.loop spec_l01New.l0)))
  (.seq (.reg [Qm 28 0, Qm 29 3, Q 30 (.build [.nils 1, .int .i64 0, .int .i64 0] [(0, 1, .t 28), (2, 1, .t 29)]), Qv 31 30, Qm 2 31] [2] [31])
  (.ret))))
def spec_l01New.m : Fn := { np := 1, body := spec_l01New.b, res := [.tmp 2] }
def spec_l01New.k (M : Nat → Option Body) : Prop := M 124 = some (.code spec_l01New.m)
def spec_l01Byte.b : C := .seq (.reg [Qi 2 0] [0] [0])
  (.seq (.reg [Qm 4 0, Qm 5 0, Q 6 (.nilc (.t 5)), Qf 7 2 6, Ql 8 7, Q 9 (.bin .mul (.t 8) (kI 6364136223846793005)), Q 10 (.bin .add (.t 9) (kI 1442695040888963407)), Q 11 (.nilc (.t 4)),
    Qf 12 2 11, Qs 1 12 10] [0] [0])
  (.seq (.regd [Qm 13 0, Q 14 (.nilc (.t 13)), Qf 15 2 14, Ql 16 15, Q 17 (.bin .shr (.t 16) (.k (.int .u64 33))), Qm 18 0, Q 19 (.nilc (.t 18)), Qf 20 2 19, Ql 21 20,
    Q 22 (.bin .shr (.t 21) (.k (.int .u64 45))), Q 23 (.bin .xor (.t 17) (.t 22)), Q 24 (.bin .and (.t 23) (kI 255)), Qm 3 24] [[], [0], [0,1], [0,1,2], lr 4, [], [5], [5,6], [5,6,7], [5,6,7,8], lr 10, lr 11, lr 12] [0,3] [0])
  (.seq (.seq (.regd [Qm 25 0, Q 26 (.nilc (.t 25)), Qf 27 1 26, Ql 28 27, Qm 29 0, Q 30 (.nilc (.t 29)), Qf 31 0 30, Ql 32 31, Q 33 (.len (.t 32)), Q 34 (.bin .lss (.t 28) (.t 33))] [[], [0], [0,1], [0,1,2], [], [4], [4,5], [4,5,6], [4,5,6,7], lr 9] [0,3,34] [0])
  (.cond (.t 34) (.seq (.regd [Qm 35 3, Qm 36 0, Q 37 (.nilc (.t 36)), Qf 38 0 37, Ql 39 38, Qm 40 0, Q 41 (.nilc (.t 40)), Qf 42 1 41, Ql 43 42, Qa 44 1 39 43, Ql 45 44, Q 46 (.i2i .i64 (.t 45)),
    Q 47 (.bin .add (.t 35) (.t 46)), Q 48 (.bin .and (.t 47) (kI 255)), Qm 3 48] [[], [], [1], [1,2], [1,2,3], [], [5], [5,6], [5,6,7], [1,2,3,4,5,6,7,8], [1,2,3,4,5,6,7,8,9], [1,2,3,4,5,6,7,8,9,10], lr 12, lr 13, lr 14] [0,3] [0])
  (.reg [Qm 49 0, Qm 50 0, Q 51 (.nilc (.t 50)), Qf 52 1 51, Ql 53 52, Q 54 (.bin .add (.t 53) (kI 1)), Q 55 (.nilc (.t 49)), Qf 56 1 55, Qs 1 56 54] [3] [0])) (.skip)))
  (.seq (.reg [Qm 57 3, Qm 2 57] [2] [0])
  (.ret)))))
def spec_l01Byte.m : Fn := { np := 1, body := spec_l01Byte.b, res := [.tmp 2] }
def spec_l01Byte.k (M : Nat → Option Body) : Prop := M 131 = some (.code spec_l01Byte.m)
def spec_l01Below.b : C := .seq (.reg [Qi 4 0] [0,1] [0])
  (.seq (.seq (.reg [Qm 9 1, Q 10 (.bin .leq (.t 9) (kI 0))] [0,1,10] [0])
  (.cond (.t 10) (.seq (.reg [Qi 4 0] [4] [0])
  (.ret)) (.skip)))
  (.seq (.seq (.reg [Qm 11 1, Q 12 (.bin .leq (.t 11) (kI 256))] [0,1,12] [0])
  (.cond (.t 12) (.seq (.reg [Qm 13 0, Q 14 (.call 131 [.t 13] [0] []), Qm 15 1, Q 16 (.bin .rem (.t 14) (.t 15)), Qm 4 16] [4] [0])
  (.ret)) (.skip)))
  (.seq (.reg [Qm 17 0, Q 18 (.call 131 [.t 17] [0] []), Qm 5 18] [0,1,5] [0])
  (.seq (.reg [Qm 19 0, Q 20 (.call 131 [.t 19] [0] []), Qm 6 20] [0,1,5,6] [0])
  (.seq (.reg [Qm 21 0, Q 22 (.call 131 [.t 21] [0] []), Qm 7 22] [0,1,5,6,7] [0])
  (.seq (.reg [Qm 23 0, Q 24 (.call 131 [.t 23] [0] []), Qm 8 24] [1,5,6,7,8] [0])
  (.seq (.reg [Qm 25 5, Q 26 (.bin .mul (.t 25) (kI 16777216)), Qm 27 6, Q 28 (.bin .mul (.t 27) (kI 65536)), Q 29 (.bin .add (.t 26) (.t 28)), Qm 30 7, Q 31 (.bin .mul (.t 30) (kI 256)),
    Q 32 (.bin .add (.t 29) (.t 31)), Qm 33 8, Q 34 (.bin .add (.t 32) (.t 33)), Qm 35 1, Q 36 (.bin .rem (.t 34) (.t 35)), Qm 4 36] [4] [0])
  (.ret))))))))
def spec_l01Below.m : Fn := { np := 2, body := spec_l01Below.b, res := [.tmp 4] }
def spec_l01Below.k (M : Nat → Option Body) : Prop := M 125 = some (.code spec_l01Below.m) ∧ spec_l01Byte.k M
def spec_l01Pick.b : C := .seq (.reg [Q 4 (.mv (.k (.str ⟨#[]⟩)))] [0,1] [0])
  (.seq (.reg [Qm 5 1, Qm 6 0, Qm 7 1, Q 8 (.len (.t 7)), Q 9 (.call 125 [.t 6, .t 8] [0] []), Qa 10 1 5 9, Ql 11 10, Qm 4 11] [4] [0])
  (.ret))
def spec_l01Pick.m : Fn := { np := 2, body := spec_l01Pick.b, res := [.tmp 4] }
def spec_l01Pick.k (M : Nat → Option Body) : Prop := M 185 = some (.code spec_l01Pick.m) ∧ spec_l01Below.k M
def spec_l05Text.b : C := .seq (.reg [Q 2 (.mv (.k (.str ⟨#[]⟩)))] [0] [0])
  (.seq (.reg [Qm 3 0,
    Q 4 (.bslf 1 6 [.str ⟨#[]⟩] [(0, .k (.str ⟨#[104,101,108,108,111]⟩)), (1, .k (.str ⟨#[104,105,10]⟩)), (2, .k (.str ⟨#[]⟩)), (3, .k (.str ⟨#[116,101,120,116,32,111,102,32,105,116]⟩)), (4, .k (.str ⟨#[0,255]⟩)), (5, .k (.str ⟨#[97,32,98]⟩))]),
    Q 5 (.call 185 [.t 3, .t 4] [0] []), Qm 2 5] [2] [0])
  (.ret))
def spec_l05Text.m : Fn := { np := 1, body := spec_l05Text.b, res := [.tmp 2] }
def spec_l05Text.k (M : Nat → Option Body) : Prop := M 174 = some (.code spec_l05Text.m) ∧ spec_l01Pick.k M
def spec_DrawPlaces.l0 : C := .seq (.seq (.reg [Qm 11 5, Q 12 (.bin .lss (.t 11) (kI 12))] [3,4,5,12] [10,19,10700])
  (.cond (.t 12) (.skip) (.exit 0)))
  (.seq (.block 1 (.reg [Qm 15 4, Qm 16 3, Q 17 (.call 125 [.t 16, kI 10000] [0] []), Q 18 (.bslice 1 1 [.int .i64 0] [(0, .t 17)]), Q 19 (.app 1 8 (.t 15) (.t 18)), Qm 4 19] [3,4,5] [10,19,10700]))
  (.reg [Qm 13 5, Q 14 (.bin .add (.t 13) (kI 1)), Qm 5 14] [3,4,5] [10,19,10700]))
def spec_DrawPlaces.b : C := .seq (.reg [Q 2 (.nil 1)] [0] [])
  (.seq (.reg [Qm 6 0, Q 7 (.call 124 [.t 6] [] [(0, 10700)]), Qm 3 7] [3] [10700])
  (.seq (.reg [Qm 8 3, Q 9 (.call 131 [.t 8] [0] [])] [3] [10700])
  (.seq (.reg [Q 10 (.bslice 1 0 [.int .i64 0] []), Qm 4 10] [3,4] [10,19,10700])
  (.seq (.seq (.reg [Qi 5 0] [3,4,5] [10,19,10700])
  (.block 0 (.loop spec_DrawPlaces.l0)))
  (.seq (.reg [Qm 20 4, Qm 2 20] [2] [2,10,19])
  (.ret))))))
def spec_DrawPlaces.m : Fn := { np := 1, body := spec_DrawPlaces.b, res := [.tmp 2] }
def spec_DrawPlaces.k (M : Nat → Option Body) : Prop := M 40 = some (.code spec_DrawPlaces.m) ∧ spec_l01New.k M ∧ spec_l01Below.k M ∧ spec_l01Byte.k M
end Mx

namespace Mx
open Go
def laws_big.b : C := .seq (.reg [Qb 2 false] [0] [])
  (.seq (.reg [Qm 3 0, Q 4 (.len (.t 3)), Q 5 (.bin .gtr (.t 4) (kI 1048576)), Qm 2 5] [2] [])
  (.ret))
def laws_big.m : Fn := { np := 1, body := laws_big.b, res := [.tmp 2] }
def laws_big.k (M : Nat → Option Body) : Prop := M 36 = some (.code laws_big.m)
end Mx

namespace Mx
open Go
def spec_l01Once.b : C := .seq (.reg [Qb 4 false] [0,1] [0])
  (.seq (.reg [Qm 5 0, Qm 6 1, Q 7 (.call 125 [.t 5, .t 6] [0] []), Q 8 (.bin .eql (.t 7) (kI 0)), Qm 4 8] [4] [0])
  (.ret))
def spec_l01Once.m : Fn := { np := 2, body := spec_l01Once.b, res := [.tmp 4] }
def spec_l01Once.k (M : Nat → Option Body) : Prop := M 175 = some (.code spec_l01Once.m) ∧ spec_l01Below.k M
end Mx

namespace Mx
open Go
def spec_StoreNew.b : C := .seq (.reg [Q 2 (.alloc [.int .i64 0, .int .i64 0, .nils 7, .nils 1])] [0,2] [2])
  (.seq (.reg [Qm 3 0, Q 4 (.build [.int .i64 0, .int .i64 0, .nils 7, .nils 1] [(0, 1, .t 3)]), Qs 4 2 4] [2] [2])
  (.ret))
def spec_StoreNew.m : Fn := { np := 1, body := spec_StoreNew.b, res := [.cell 2 true 4] }
def spec_StoreNew.k (M : Nat → Option Body) : Prop := M 113 = some (.code spec_StoreNew.m)
def spec_l07Use.br : C := .seq (.reg [Qm 59 10, Q 60 (.bin .eql (.t 59) (kI 0)), Qm 61 60, Qg 62 (.mv (.t 13)) 61 false, Qg 63 (.bin .eql (.t 62) (kI 0)) 61 false, Q 64 (.pick (.t 61) (kB true) (.t 63)), Qm 58 64] [0,2,3,5,8,9,10,11,13,58] [0,5,8,15502,15503])
  (.cond (.t 58) (.shut [15502,15503] (.regd [QL 66 4 5, Qm 67 3, Qm 68 9, Q 69 (.bin .add (.t 67) (.t 68)), Qm 70 0,
    Q 71 (.bslf 1 3 [.str ⟨#[]⟩] [(0, .k (.str ⟨#[105,110,98,111,120]⟩)), (1, .k (.str ⟨#[119,111,114,107]⟩)), (2, .k (.str ⟨#[111,108,100]⟩))]),
    Q 72 (.call 185 [.t 70, .t 71] [0] []), Q 73 (.call 278 [.t 66, .t 69, .t 72] [] [(2, 15502), (3, 15503)]), Qm 65 73, Qx 74 0 65, Qx 75 1 65, Qs 4 5 74] [[], [], [], [1,2], [], [], [4,5], lr 7, lr 8, lr 9, lr 9, lr 10] [0,2,3,5,8,9] [0,5,8,15502,15503])) (.seq (.reg [Qm 77 13, Q 78 (.bin .lss (.t 77) (kI 6)), Qm 76 78] [0,2,3,5,8,9,10,11,13,76] [0,5,8,15502,15503])
  (.cond (.t 76) (.shut [15502,15503] (.regd [QL 80 4 5, Qm 81 10, Qm 82 3, Qm 83 9, Q 84 (.bin .add (.t 82) (.t 83)), Qm 85 0, Q 86 (.call 125 [.t 85, kI 8] [0] []), Qm 87 0, Q 88 (.call 174 [.t 87] [0] []),
    Q 89 (.call 279 [.t 80, .t 81, .t 84, .t 86, .t 88] [] [(2, 15502), (3, 15503)]), Qm 79 89, Qx 90 0 79, Qx 91 1 79, Qs 4 5 90] [[], [], [], [], [2,3], [], [5], [], [5,6,7], lr 9, lr 10, lr 11, lr 11, lr 12] [0,2,3,5,8,9] [0,5,8,15502,15503])) (.seq (.reg [Qm 93 13, Q 94 (.bin .lss (.t 93) (kI 9)), Qm 92 94] [0,2,3,5,8,9,10,11,13,92] [0,5,8,15502,15503])
  (.cond (.t 92) (.shut [15502,15503] (.regd [QL 96 4 5, Qm 97 10, Qm 98 11, Qm 99 0, Q 100 (.call 125 [.t 99, kI 8] [0] []), Q 101 (.call 280 [.t 96, .t 97, .t 98, .t 100] [] [(2, 15502), (3, 15503)]), Qm 95 101, Qx 102 0 95,
    Qx 103 1 95, Qs 4 5 102] [[], [], [], [], [3], lr 5, lr 6, lr 7, lr 7, lr 8] [0,2,3,5,8,9] [0,5,8,15502,15503])) (.seq (.reg [Qm 105 13, Q 106 (.bin .eql (.t 105) (kI 9)), Qm 104 106] [0,2,3,5,8,9,10,11,13,104] [0,5,8,15502,15503])
  (.cond (.t 104) (.shut [15502,15503] (.reg [QL 108 4 5, Qm 109 10, Qm 110 11, Q 111 (.call 281 [.t 108, .t 109, .t 110] [] [(2, 15502), (3, 15503)]), Qm 107 111, Qx 112 0 107, Qx 113 1 107, Qs 4 5 112] [0,2,3,5,8,9] [0,5,8,15502,15503])) (.seq (.reg [Qm 115 13, Q 116 (.bin .eql (.t 115) (kI 10)), Qm 114 116] [0,2,3,5,8,9,10,114] [0,5,8,15502,15503])
  (.cond (.t 114) (.shut [15502,15503] (.regd [QL 118 4 5, Qm 119 10, Qm 120 0,
    Q 121 (.bslf 1 4 [.str ⟨#[]⟩] [(0, .k (.str ⟨#[105,110,98,111,120]⟩)), (1, .k (.str ⟨#[119,111,114,107]⟩)), (2, .k (.str ⟨#[110,101,119]⟩)), (3, .k (.str ⟨#[111,116,104,101,114]⟩))]),
    Q 122 (.call 185 [.t 120, .t 121] [0] []), Q 123 (.call 282 [.t 118, .t 119, .t 122] [] [(2, 15502), (3, 15503)]), Qm 117 123, Qx 124 0 117, Qx 125 1 117, Qs 4 5 124] [[], [], [], [], [2,3], lr 5, lr 6, lr 7, lr 7, lr 8] [0,2,3,5,8,9] [0,5,8,15502,15503])) (.seq (.reg [Qm 50 0, Q 51 (.call 175 [.t 50, kI 3] [0] [])] [0,2,3,5,8,9,10,51] [0,5,8,15502,15503])
  (.cond (.t 51) (.shut [15502,15503] (.reg [QL 53 4 5, Qm 54 10, Q 55 (.call 283 [.t 53, .t 54] [] [(2, 15502), (3, 15503)]), Qm 52 55, Qx 56 0 52, Qx 57 1 52, Qs 4 5 56] [0,2,3,5,8,9] [0,5,8,15502,15503])) (.skip))))))))))))
def spec_l07Use.hd : C := .seq (.seq (.reg [Qf 19 2 5, Ql 20 19, Q 21 (.len (.t 20)), Q 22 (.bin .gtr (.t 21) (kI 0))] [0,2,3,5,8,9,10,11,22] [0,5,8,15502,15503])
  (.cond (.t 22) (.seq (.regd [Qf 23 2 5, Ql 24 23, Qm 25 0, Qf 26 2 5, Ql 27 26, Q 28 (.len (.t 27)), Q 29 (.call 125 [.t 25, .t 28] [0] []), Qa 30 7 24 29, QL 31 7 30,
    Q 12 (.alloc [.int .i64 0, .str ⟨#[]⟩, .int .i64 0, .int .i64 0, .int .i64 0, .nils 4, .nils 1]), Qs 7 12 31] [[], [0], [], [], [3], [3,4], [2,3,4,5], lr 7, lr 8, [], lr 10] [0,2,3,5,8,9,11,12] [0,5,8,12,15502,15503])
  (.seq (.reg [Qf 32 0 12, Ql 33 32, Qm 10 33] [0,2,3,5,8,9,10,11,12] [0,5,8,12,15502,15503])
  (.seq (.reg [Qf 34 5 12, Ql 35 34, Q 36 (.len (.t 35)), Q 37 (.bin .gtr (.t 36) (kI 0))] [0,2,3,5,8,9,10,11,12,37] [0,5,8,12,15502,15503])
  (.cond (.t 37) (.regd [Qf 38 5 12, Ql 39 38, Qm 40 0, Qf 41 5 12, Ql 42 41, Q 43 (.len (.t 42)), Q 44 (.call 125 [.t 40, .t 43] [0] []), Qa 45 4 39 44, Qf 46 0 45, Ql 47 46, Qm 11 47] [[], [0], [], [], [3], [3,4], [2,3,4,5], lr 7, lr 8, lr 9, lr 10] [0,2,3,5,8,9,10,11] [0,5,8,15502,15503]) (.skip))))) (.skip)))
  (.seq (.reg [Qm 48 0, Q 49 (.call 125 [.t 48, kI 12] [0] []), Qm 13 49] [0,2,3,5,8,9,10,11,13] [0,5,8,15502,15503])
  (.block 2 spec_l07Use.br))
def spec_l07Use.l0 : C := .seq (.seq (.reg [Qm 14 9, Qm 15 2, Q 16 (.bin .lss (.t 14) (.t 15))] [0,2,3,5,8,9,16] [0,5,8,15502,15503])
  (.cond (.t 16) (.skip) (.exit 0)))
  (.seq (.block 1 (.seq (.reg [Qi 10 0] [0,2,3,5,8,9,10] [0,5,8,15502,15503])
  (.seq (.reg [Qi 11 0] [0,2,3,5,8,9,10,11] [0,5,8,15502,15503])
  spec_l07Use.hd)))
  (.reg [Qm 17 9, Q 18 (.bin .add (.t 17) (kI 1)), Qm 9 18] [0,2,3,5,8,9] [0,5,8,15502,15503]))
def spec_l07Use.b : C := .seq (.reg [Qv 5 1, Q 8 (.alloc [.int .i64 0, .int .i64 0, .nils 7, .nils 1])] [0,2,3,5,8] [0,5,8,15502,15503])
  (.seq (.seq (.reg [Qi 9 0] [0,2,3,5,8,9] [0,5,8,15502,15503])
  (.block 0 (.loop spec_l07Use.l0)))
  (.seq (.reg [QL 126 4 5, Qs 4 8 126] [8] [0,8,15502,15503])
  (.ret)))
def spec_l07Use.m : Fn := { np := 4, body := spec_l07Use.b, res := [.cell 8 true 4] }
def spec_l07Use.k (M : Nat → Option Body) : Prop := M 244 = some (.code spec_l07Use.m) ∧ spec_l01Below.k M ∧ spec_l05Text.k M ∧ spec_l01Once.k M ∧ spec_l01Pick.k M ∧ spec_MakeBox.k M ∧ spec_PutMail.k M ∧ spec_MarkMail.k M ∧ spec_DropMail.k M ∧ spec_RenameBox.k M ∧ spec_DropBox.k M
def spec_l07Store.b : C := .seq (.reg [Q 2 (.alloc [.int .i64 0, .int .i64 0, .nils 7, .nils 1])] [0,2] [0,2,11302,11303])
  (.seq (.reg [Qm 4 0, Q 5 (.call 125 [.t 4, kI 12] [0] []), Q 6 (.bin .add (kI 2) (.t 5)), Qm 3 6] [0,2,3] [0,2,11302,11303])
  (.seq (.reg [Qm 7 0, Qm 8 0, Q 9 (.call 125 [.t 8, kI 2] [0] []), Q 10 (.bin .add (kI 1) (.t 9)), Q 11 (.call 113 [.t 10] [] []), Qm 12 3,
    Q 13 (.call 244 [.t 7, .t 11, .t 12, kI 100] [0] [(2, 11302), (3, 11303)]), Qs 4 2 13] [2] [0,2,11302,11303])
  (.ret)))
def spec_l07Store.m : Fn := { np := 1, body := spec_l07Store.b, res := [.cell 2 true 4] }
def spec_l07Store.k (M : Nat → Option Body) : Prop := M 188 = some (.code spec_l07Store.m) ∧ spec_StoreNew.k M ∧ spec_l01Below.k M ∧ spec_l07Use.k M
end Mx

namespace Mx
open Go
def impl_BoxAt_1.b : C := .seq (.reg [Qv 2 0, Qb 3 false] [1,2] [2])
  (.seq (.reg [Qf 4 0 2, Ql 5 4, Ql 6 1, Q 7 (.bin .eql (.t 5) (.t 6)), Qm 3 7] [3] [])
  (.ret))
def impl_BoxAt_1.m : Fn := { np := 2, body := impl_BoxAt_1.b, res := [.tmp 3] }
def impl_BoxAt_1.k (M : Nat → Option Body) : Prop := M 199 = some (.code impl_BoxAt_1.m)
def impl_BoxAt.b : C := .seq (.reg [Qv 2 0, Qv 3 1, Qi 4 0] [2,3] [2,3])
  (.seq (.reg [Qf 5 2 2, Ql 6 5, Q 7 (.mkfn 199 [.t 3]), Q 8 (.call 200 [.t 6, .t 7] [] []), Qm 4 8] [4] [])
  (.ret))
def impl_BoxAt.m : Fn := { np := 2, body := impl_BoxAt.b, res := [.tmp 4] }
def impl_BoxAt.k (M : Nat → Option Body) : Prop := M 95 = some (.code impl_BoxAt.m) ∧ impl_BoxAt_1.k M ∧ slices_IndexFunc_impl_Box_impl_Box.k M
end Mx

namespace Mx
open Go
variable {P : Program} {F : Nat → FuncId}
def insG (as : List V) (lent : List (Nat × Ob)) : Option (V × List (Nat × Ob)) := match as, lent with
  | [.c (.row 0 0 0 len), .c (.int .i64 i), .c (.row 2 2 0 1)], [(0, ob), (2, ob2)] =>
    if (ob.sz = 7 ∧ ob.bx = false ∧ len ≤ ob.rows.length ∧ 0 ≤ i ∧ i ≤ (len : Int) ∧ len ≤ 1048576) ∧ ob2.sz = 7 ∧ ob2.bx = false ∧ ob2.rows.length = 1 then
      some (.c (.sl true 7 (ob.rows.take i.toNat ++ ob2.rows ++ (ob.rows.take len).drop i.toNat)), [(2, ob2)]) else none
  | _, _ => none
theorem setCells_block {b : Nat} {e : TypeId} {fr : Nat × Nat} : ∀ (vs : List Value) (o : Nat) (cs : Array Value) (w : World), w.heap[b]? = some (.cells cs e fr) → o + vs.length ≤ cs.size →
    ∃ cs', (w.setCells b o vs).heap[b]? = some (.cells cs' e fr) ∧ cs'.size = cs.size ∧ (∀ q, cs'[q]? = if o ≤ q ∧ q < o + vs.length then vs[q - o]? else cs[q]?) ∧
      (w.setCells b o vs).os = w.os ∧ (w.setCells b o vs).tape = w.tape ∧ (w.setCells b o vs).output = w.output ∧ (w.setCells b o vs).heap.size = w.heap.size ∧ ∀ k, k ≠ b → (w.setCells b o vs).heap[k]? = w.heap[k]?
  | [], o, cs, w, hb, hl => ⟨cs, hb, rfl, fun q => by rw [if_neg (by simp)], rfl, rfl, rfl, rfl, fun _ _ => rfl⟩
  | v :: vs, o, cs, w, hb, hl => by
    simp only [List.length_cons] at hl
    have hb' : (w.setCell ⟨b, o, none⟩ v).heap[b]? = some (.cells (cs.setIfInBounds o v) e fr) := by
      simp only [World.setCell, Array.getElem?_modify, hb]; simp
    obtain ⟨cs', g1, g2, g3, g4, g5, g6, g7, g8⟩ := setCells_block vs (o + 1) (cs.setIfInBounds o v) _ hb' (by simpa using (by omega))
    refine ⟨cs', g1, by rw [g2]; simp, fun q => ?_, g4, g5, g6, by rw [World.setCells, g7]; simp [World.setCell], fun k hk => ?_⟩
    · rw [g3 q, Array.getElem?_setIfInBounds]
      by_cases r : o + 1 ≤ q ∧ q < o + 1 + vs.length
      · rw [if_pos r, if_pos ⟨by omega, by simp only [List.length_cons]; omega⟩]
        obtain ⟨p, rfl⟩ : ∃ p, q = o + (p + 1) := ⟨q - o - 1, by omega⟩
        rw [show o + (p + 1) - o = p + 1 from by omega, show o + (p + 1) - (o + 1) = p from by omega]
        simp
      · rw [if_neg r]
        by_cases e : o = q
        · subst e
          rw [if_pos rfl, if_pos (by omega), if_pos ⟨Nat.le_refl _, by simp⟩]
          simp
        · rw [if_neg e, if_neg (by simp only [List.length_cons]; omega)]
    · rw [World.setCells, g8 k hk]
      simp only [World.setCell, Array.getElem?_modify]
      rw [if_neg (fun e => hk e.symm)]
/-- what lies behind the call -/
structure InsOut (w w' : World) (b : Option Nat) (b' cap' : Nat) (R : List Value) : Prop where
  os : w'.os = w.os
  tape : w'.tape = w.tape
  output : w'.output = w.output
  size : w.heap.size ≤ w'.heap.size
  lt : b' < w'.heap.size
  loc : b = some b' ∨ w.heap.size ≤ b'
  frame : ∀ k, k < w.heap.size → b ≠ some k → w'.heap[k]? = w.heap[k]?
  mem : ∃ cs e fr, w'.heap[b']? = some (.cells cs e fr) ∧ cs.size = cap' * 7 ∧ (∀ o, o ≤ cs.size → ¬ (fr.1 ≤ o ∧ o < fr.2)) ∧ ∀ (j : Nat) (v : Value), R[j]? = some v → cs[j]? = some v
theorem ob_flat {X : Cx} {ob : Ob} {b cap : Nat} (h : RepOb X ob b cap) (hz : ob.sz = 7) {arr : Array Value} {e : TypeId} {fr : Nat × Nat} (hm : X.w.heap[b]? = some (.cells arr e fr)) (n : Nat) (hn : n ≤ ob.rows.length) :
    RepL X (ob.rows.take n).flatten (arr.toList.take (n * 7)) ∧ (arr.toList.take (n * 7)).length = n * 7 := by
  obtain ⟨h1, h2, h3, cs, e', fr', m1, m2, m3, m4⟩ := h
  rw [m1] at hm; cases hm
  rw [hz] at m2 h2 m4
  have hw : ∀ (i : Nat) (r : List T), (ob.rows.take n)[i]? = some r → r.length = 7 := width_take h2
  have hfl := flat_length hw
  have htl : (ob.rows.take n).length = n := by simp; omega
  rw [htl] at hfl
  have hlen : (arr.toList.take (n * 7)).length = n * 7 := by
    have : n * 7 ≤ cap * 7 := Nat.mul_le_mul_right 7 (by omega)
    simp; omega
  refine ⟨⟨by rw [hfl, hlen], fun q t v ht hv => ?_⟩, hlen⟩
  have hq : q < n * 7 := by rw [← hfl]; exact (List.getElem?_eq_some_iff.1 ht).1
  obtain ⟨i, j, r, t', rfl, k1, k2, k3⟩ := flat_unget hw (by omega) (by rw [htl]; exact hq)
  rw [ht] at k3; cases k3
  rw [List.getElem?_take] at k1
  split at k1
  · obtain ⟨v', q1, q2⟩ := m4 i j r _ k1 k2
    rw [List.getElem?_take, if_pos hq, Array.getElem?_toList, q1] at hv
    cases hv; exact q2
  · cases k1
section
variable {Pr : Nat → Prop} {E0 : Nat → Option Loc} {vals : Array Value} {w w' : World}
theorem ins_back {len : Nat} {i : Int} {ob ob2 : Ob} (En : Entry F Pr E0 [.c (.row 0 0 0 len), .c (.int .i64 i), .c (.row 2 2 0 1)] [(0, ob), (2, ob2)] vals w)
    (h2x : ob2.bx = false) (hb : Option Nat) (hb0 : ∀ b, hb = some b → ∃ cap, E0 0 = some (.blk b cap 7)) {b' cap' : Nat} {R : List Value} (O : InsOut w w' hb b' cap' R)
    {rows : List (List T)} (hrl : rows.length ≤ cap') (hrw : ∀ (i : Nat) (r : List T), rows[i]? = some r → r.length = 7) (hrc : ∀ (i j : Nat) (r : List T) (t : T), rows[i]? = some r → r[j]? = some t → Closed t)
    (hR : RepL (cx F Pr E0 [(0, ob), (2, ob2)] w) rows.flatten R) :
    ∃ val E' own, Ending.returned (.slice (some (baseA b')) rows.length cap') = .returned val ∧ Back F Pr E0 [(0, ob), (2, ob2)] w E' own (.c (.sl true 7 rows)) [(2, ob2)] val w' := by
  obtain ⟨v1, _, w1, l1, hl1, hr1⟩ := En.objs 0 ob (by simp [get])
  obtain ⟨v2, _, w2, l2, hl2, hr2⟩ := En.objs 2 ob2 (by simp [get])
  have hlb0 : ∀ b, hb = some b → LentB [(0, ob), (2, ob2)] E0 b := fun b h => by
    obtain ⟨cap, h0⟩ := hb0 b h
    exact ⟨0, ob, cap, 7, by simp [get], by rw [v1]; exact h0⟩
  have hd : ∀ b cap sz, l2 = .blk b cap sz → hb ≠ some b := fun b cap sz h hq => by
    obtain ⟨cap0, h0⟩ := hb0 b hq
    rw [h] at hl2
    have := En.dist 0 2 ob ob2 b cap0 7 cap sz (by simp [get]) (by simp [get]) (by rw [v1]; exact h0) (by rw [v2]; exact hl2)
    omega
  have K : Keeps (cx F Pr E0 [(0, ob), (2, ob2)] w) (rx F Pr E0 [(0, ob), (2, ob2)] E0 (fun q => if q = 0 then some (.blk b' cap' 7) else none) w') := by
    refine ⟨rfl, fun _ _ h => h, fun ad v hu hcell => ?_⟩
    have hlt : ad.block < w.heap.size := cell_lt hcell
    have hnl : ¬ LentB [(0, ob), (2, ob2)] E0 ad.block := by
      rintro ⟨p, ob', cap, sz, h1, h2⟩
      refine hu (.inl ⟨p, ob', cap, sz, h1, ?_, h2⟩)
      simp only [get] at h1
      split at h1
      · cases h1; exact w1
      · split at h1
        · cases h1; exact w2
        · cases h1
    refine ⟨(cell_of_heap (O.frame _ hlt fun q => hnl (hlb0 _ q))).trans hcell, ?_⟩
    rintro (h | h | ⟨q, cap, sz, h⟩)
    · exact hnl h
    · exact hu (.inr h)
    · simp only at h
      split at h
      · simp only [Option.some.injEq, Loc.blk.injEq] at h
        rcases O.loc with z | z
        · exact hnl (by rw [← h.1]; exact hlb0 _ z)
        · omega
      · cases h
  obtain ⟨cs, e, fr, m1, m2, m3, m4⟩ := O.mem
  refine ⟨.slice (some (baseA b')) rows.length cap', E0, fun q => if q = 0 then some (.blk b' cap' 7) else none, rfl, O.os, O.tape, O.output, O.size, ?_, fun _ _ h => h, ?_, ?_, ?_, ?_⟩
  · intro k hk hn
    exact O.frame k hk fun q => hn (hlb0 k q)
  · intro q b cap sz h
    split at h
    · simp only [Option.some.injEq, Loc.blk.injEq] at h
      obtain ⟨rfl, rfl, rfl⟩ := h
      refine ⟨?_, O.lt⟩
      rcases O.loc with z | z
      · obtain ⟨cap0, h0⟩ := hb0 _ z
        exact .inr ⟨0, ob, cap0, 7, by simp [get], by simp [get], by rw [v1]; exact h0⟩
      · exact .inl z
    · cases h
  · intro q q' b cap sz cap2 sz2 h h'
    split at h
    · split at h'
      · omega
      · cases h'
    · cases h
  · simp only [ResA, ResV]
    refine ResT.own 7 rows (.blk b' cap' 7) (by simp) ⟨rfl, ?_⟩
    exact repob_of_flat (ob := { ver := 0, sz := 7, w := true, bx := false, rows := rows }) hrl hrw (hR.mono K) m1 m2 m3 m4 fun _ => hrc
  · intro p o1 o2 l hg ha hE
    simp only [get] at hg ha
    split at ha
    · rename_i hp2
      subst hp2
      cases ha
      have hg' : ob2 = o1 := by simpa using hg
      subst hg'
      rw [hE] at hl2; cases hl2
      have hclo : ∀ (i j : Nat) (r : List T) (t : T), ob2.rows[i]? = some r → r[j]? = some t → Closed t := by
        intro i j r t hi hj
        cases l2 with
        | nil => have := hr2.1; rw [this] at hi; simp at hi
        | blk b cap sz => exact hr2.2.cl h2x i j r t hi hj
      refine ⟨?_, hclo⟩
      cases l2 with
      | nil => exact hr2
      | blk b cap sz =>
        refine ⟨hr2.1, hr2.2.mono K ?_⟩
        exact O.frame b (En.place 2 ob2 b cap sz (by simp [get]) (by rw [v2]; exact hE)) (hd b cap sz rfl)
    · cases ha
/-- the block takes the values in place -/
theorem out_store {w1 : World} {b o cap : Nat} {arr : Array Value} {e : TypeId} {fr : Nat × Nat} {vs R : List Value} (hm : w.heap[b]? = some (.cells arr e fr)) (hs : arr.size = cap * 7) (hf : ∀ o, o ≤ arr.size → ¬ (fr.1 ≤ o ∧ o < fr.2))
    (hl : o + vs.length ≤ arr.size) (hw : w1 = w.setCells b o vs) (hR : ∀ (j : Nat) (v : Value), R[j]? = some v → (if o ≤ j ∧ j < o + vs.length then vs[j - o]? else arr[j]?) = some v) : InsOut w w1 (some b) b cap R := by
  obtain ⟨cs', g1, g2, g3, g4, g5, g6, g7, g8⟩ := setCells_block vs o arr w hm hl
  subst hw
  have hb : b < w.heap.size := by
    rcases Nat.lt_or_ge b w.heap.size with q | q
    · exact q
    · rw [Array.getElem?_eq_none q] at hm; cases hm
  exact ⟨g4, g5, g6, by rw [g7]; exact Nat.le_refl _, by rw [g7]; exact hb, .inl rfl, fun k _ hn => g8 k fun q => hn (by rw [q]), cs', e, fr, g1, by rw [g2]; exact hs, fun o ho => hf o (by omega), fun j v hj => by rw [g3]; exact hR j v hj⟩
theorem row3_get {cs vs : List Value} {k : Nat} (hk : k ≤ cs.length) (hv : vs.length = 7) {j : Nat} {v : Value} (h : (cs.take k ++ vs ++ cs.drop k)[j]? = some v) :
    (j < k ∧ cs[j]? = some v) ∨ (k ≤ j ∧ j < k + 7 ∧ vs[j - k]? = some v) ∨ (k + 7 ≤ j ∧ j < cs.length + 7 ∧ (cs.drop k)[j - (k + 7)]? = some v) := by
  have h1 : (cs.take k).length = k := by simp; omega
  have hj : j < (cs.take k ++ vs ++ cs.drop k).length := (List.getElem?_eq_some_iff.1 h).1
  simp only [List.length_append, h1, hv, List.length_drop] at hj
  rw [List.append_assoc, List.getElem?_append] at h
  split at h
  · rename_i c
    rw [h1] at c
    rw [List.getElem?_take, if_pos c] at h
    exact .inl ⟨c, h⟩
  · rename_i c
    rw [h1] at c h
    rw [List.getElem?_append] at h
    split at h
    · rename_i c2
      exact .inr (.inl ⟨by omega, by omega, h⟩)
    · rename_i c2
      refine .inr (.inr ⟨by omega, by omega, ?_⟩)
      rw [hv] at h
      rw [show j - (k + 7) = j - k - 7 by omega]; exact h
theorem ext_ins {f : Nat} {tS tE : TypeId} {bytes : Nat} {zero : List T} (hf : okFn P F f = true) (he : sliceElem P tS = some tE) (hsz : tSize P tE = some 7) (hby : tBytes P tE = some bytes) (hbytes : bytes ≤ 4096) (hz : zokV P zero tE = true)
    (hEnd : ∀ (base : Option Addr) (n c vb vc : Nat) (w w1 : World) (val : Value), (base = none → n = 0) → (∀ a, base = some a → ∃ b, a = ⟨b, 0, none⟩) → n ≤ c →
      (∀ ty, (Builtin.append_ #[tS, tS] ty #[.slice base n c, .slice (some ⟨vb, 0, none⟩) 1 vc]).run P w = .ok val w1) → Calls P (F f) #[.slice base n c, .int .i64 n, .slice (some ⟨vb, 0, none⟩) 1 vc] w fun e w' => e = .returned val ∧ w' = w1)
    (hShift : ∀ (b n c i vb vc : Nat) (cs vs : List Value) (w : World), i < n → n + 1 ≤ c → n ≤ 1048576 → vb ≠ b → cs.length = n * 7 → vs.length = 7 → (∀ j v, cs[j]? = some v → w.cell? ⟨b, j, none⟩ = some v) →
      (∀ j, j < (n + 1) * 7 → (w.cell? ⟨b, j, none⟩).isSome = true) → (∀ j, j < (n + 1) * 7 → w.frozen? ⟨b, j, none⟩ = false) → (∀ j v, vs[j]? = some v → w.cell? ⟨vb, j, none⟩ = some v) → (∀ v ∈ cs, v.oneCell' = true) → (∀ v ∈ vs, v.oneCell' = true) →
      ∀ (tA tB : TypeId) (kA kB : Nat), w.shape? vb = some (tA, kA) → w.shape? b = some (tB, kB) → kB ≠ 0 → w.frozen? ⟨vb, 0, none⟩ = false → w.frozen? ⟨vb, kA, none⟩ = false →
      Calls P (F f) #[.slice (some ⟨b, 0, none⟩) n c, .int .i64 i, .slice (some ⟨vb, 0, none⟩) 1 vc] w fun e w' =>
        e = .returned (.slice (some ⟨b, 0, none⟩) (n + 1) c) ∧ w' = (w.drew.setCells b ((i + 1) * 7) (cs.drop (i * 7))).setCells b (i * 7) vs)
    (hGrow : ∀ (b n c i vb vc : Nat) (cs vs : List Value) (w : World), i < n → n ≤ c → c < n + 1 → n ≤ 1048576 → cs.length = n * 7 → vs.length = 7 → (∀ j v, cs[j]? = some v → w.cell? ⟨b, j, none⟩ = some v) → (∀ j v, vs[j]? = some v → w.cell? ⟨vb, j, none⟩ = some v) →
      (∀ v ∈ cs, v.oneCell' = true) → (∀ v ∈ vs, v.oneCell' = true) →
      Calls P (F f) #[.slice (some ⟨b, 0, none⟩) n c, .int .i64 i, .slice (some ⟨vb, 0, none⟩) 1 vc] w fun e w' =>
        ∃ (G : Nat) (row : Array Value), n + 1 ≤ G ∧ row.size = G * 7 ∧ e = .returned (.slice (some ⟨w.heap.size, 0, none⟩) (n + 1) G) ∧ (∀ j, j < i * 7 → row[j]? = cs[j]?) ∧
        w' = (((w.alloc (.cells row tE)).drew.setCells w.heap.size (i * 7) vs).drew).setCells w.heap.size ((i + 1) * 7) (cs.drop (i * 7))) : ExtOk P F f insG := by
  intro as lent res after hg
  refine ⟨hf, fun Pr E0 vals w En => ?_⟩
  unfold insG at hg
  split at hg
  rotate_left
  · cases hg
  rename_i len i ob ob2
  split at hg
  rotate_left
  · cases hg
  rename_i hc
  cases hg
  obtain ⟨⟨c1, c2, c3, c4, c5, c6⟩, c7, c8, c9⟩ := hc
  obtain ⟨m, rfl⟩ : ∃ m : Nat, i = (m : Int) := ⟨i.toNat, by omega⟩
  have hm : m ≤ len := by omega
  simp only [Int.toNat_natCast]
  have hn : vals.size = 3 := En.n.symm
  obtain ⟨x0, x1, x2, rfl⟩ : ∃ x0 x1 x2, vals = #[x0, x1, x2] := by
    obtain ⟨l⟩ := vals
    match l, hn with
    | [a, b, c], _ => exact ⟨a, b, c, rfl⟩
  have a0 := En.args 0 _ x0 rfl rfl
  have a1 := En.args 1 _ x1 rfl rfl
  have a2 := En.args 2 _ x2 rfl rfl
  obtain ⟨v1, _, w1, l1, hl1, hr1⟩ := En.objs 0 ob (by simp [get])
  obtain ⟨v2, _, w2, l2, hl2, hr2⟩ := En.objs 2 ob2 (by simp [get])
  have hx1 : x1 = .int .i64 m := by cases a1 with | c _ _ h => cases h; rfl
  subst hx1
  -- the box that goes in
  cases a2 with
  | c _ _ a2 =>
  cases a2 with
  | row _ _ _ _ vcap vsz vb hvE _ _ =>
  have hvE' : E0 2 = some (.blk vb vcap vsz) := hvE
  rw [hvE'] at hl2; cases hl2
  obtain ⟨e2, hob2⟩ := hr2
  rw [c7] at e2; subst e2
  obtain ⟨arr2, et2, fr2, n1, n2, n3, n4⟩ := hob2.mem
  rw [c7] at n2 n4
  have hvl1 : 1 ≤ vcap := by have := hob2.len; omega
  obtain ⟨hV, hVl⟩ := ob_flat hob2 c7 n1 1 (by omega)
  rw [List.take_of_length_le (by omega : ob2.rows.length ≤ 1)] at hV
  simp only [Nat.one_mul] at hV hVl
  obtain ⟨vs, hvs⟩ : ∃ vs, vs = arr2.toList.take 7 := ⟨_, rfl⟩
  rw [← hvs] at hV hVl
  have n1' : w.heap[vb]? = some (.cells arr2 et2 fr2) := n1
  have hvcell : ∀ (j : Nat) (v : Value), vs[j]? = some v → w.cell? ⟨vb, j, none⟩ = some v := by
    intro j v hj
    rw [hvs, List.getElem?_take] at hj
    split at hj
    · rw [Array.getElem?_toList] at hj
      simp only [World.cell?, n1', Option.isSome_none, Bool.false_eq_true, if_false]; exact hj
    · cases hj
  have hfzv : ∀ o, o ≤ arr2.size → w.frozen? ⟨vb, o, none⟩ = false := by
    intro o ho
    have := n3 o ho
    simp only [World.frozen?, n1', Bool.and_eq_false_iff, decide_eq_false_iff_not]
    omega
  have hx2 : (Value.slice (some ((baseA vb).add (0 * 7))) 1 (vcap - 0)) = .slice (some ⟨vb, 0, none⟩) 1 vcap := by
    rw [baseA_add]; simp
  rw [hx2] at En ⊢
  have hrows : ∀ (k : Nat) (r : List T), (ob.rows.take m ++ ob2.rows ++ (ob.rows.take len).drop m)[k]? = some r → (∃ k' : Nat, ob.rows[k']? = some r) ∨ ∃ k' : Nat, ob2.rows[k']? = some r := by
    intro k r h
    rcases List.mem_append.1 (List.mem_of_getElem? h) with q | q
    · rcases List.mem_append.1 q with q | q
      · exact .inl (List.getElem?_of_mem (List.mem_of_mem_take q))
      · exact .inr (List.getElem?_of_mem q)
    · exact .inl (List.getElem?_of_mem (List.mem_of_mem_take (List.mem_of_mem_drop q)))
  have hlenR : (ob.rows.take m ++ ob2.rows ++ (ob.rows.take len).drop m).length = len + 1 := by simp [c9]; omega
  have hw2 : ∀ (k : Nat) (r : List T), ob2.rows[k]? = some r → r.length = 7 := by have := hob2.width; rwa [c7] at this
  -- what comes back, wherever it lies
  have fin : ∀ (hb : Option Nat) (hb0 : ∀ b, hb = some b → ∃ cap, E0 0 = some (.blk b cap 7)) (b' cap' : Nat) (R : List Value) (w' : World), InsOut w w' hb b' cap' R → len + 1 ≤ cap' →
      (∀ (k j : Nat) (r : List T) (t : T), ob.rows[k]? = some r → r[j]? = some t → Closed t) → (∀ (k : Nat) (r : List T), ob.rows[k]? = some r → r.length = 7) →
      RepL (cx F Pr E0 [(0, ob), (2, ob2)] w) (ob.rows.take m ++ ob2.rows ++ (ob.rows.take len).drop m).flatten R →
      ∃ val E' own, Ending.returned (.slice (some (baseA b')) (len + 1) cap') = .returned val ∧ Back F Pr E0 [(0, ob), (2, ob2)] w E' own (.c (.sl true 7 (ob.rows.take m ++ ob2.rows ++ (ob.rows.take len).drop m))) [(2, ob2)] val w' := by
    intro hb hb0 b' cap' R w' O hcap hcl hwd hR
    have := ins_back En c8 hb hb0 O (rows := ob.rows.take m ++ ob2.rows ++ (ob.rows.take len).drop m) (by rw [hlenR]; exact hcap) (fun k r h => by
      rcases hrows k r h with ⟨k', q⟩ | ⟨k', q⟩
      · exact hwd k' r q
      · exact hw2 k' r q) (fun k j r t h hj => by
      rcases hrows k r h with ⟨k', q⟩ | ⟨k', q⟩
      · exact hcl k' j r t q hj
      · exact hob2.cl c8 k' j r t q hj) hR
    rw [hlenR] at this
    exact this
  obtain ⟨zv, hzv, hzr, hzs, _⟩ := zokV_rep (P := P) (X := cx F Pr E0 [(0, ob), (2, ob2)] w) hz
  have hzc : zv.cells.size = 7 := by
    rw [hsz] at hzs
    have h1 := hzr.1
    simp at h1
    have := Option.some.inj hzs
    omega
  have hlv : (Builtin.lenOf (.slice (some ⟨vb, 0, none⟩) 1 vcap)).run P w = .ok 1 w := by simp [Builtin.lenOf]
  have hnew : ∀ q, (Builtin.firstCells 7 1 (.slice (some ⟨vb, 0, none⟩) 1 vcap)).run P { w with drawn := q } = .ok vs.toArray { w with drawn := q } := fun q =>
    run_firstCells_some (P := P) (w := { w with drawn := q }) 7 1 ⟨vb, 0, none⟩ 1 vcap vs (by omega) (fun j v hj => by rw [show (⟨vb, 0, none⟩ : Addr) = baseA vb from rfl, baseA_add]; exact hvcell j v hj)
  cases a0 with
  | c _ _ a0 =>
  cases a0 with
  | rown _ _ hE =>
    have hE' : E0 0 = some .nil := hE
    rw [hE'] at hl1; cases hl1
    have hrn : ob.rows = [] := hr1.1
    have hm0 : m = 0 := by omega
    subst hm0
    have hgo := (app_go (P := P) (w := w) (tyr := tS) (base := none) (sLen := 0) (sCap := 0) he hsz (slice_u he) (fun k => by simp) hby hzv hzc hbytes (k := 1) (by omega) hlv hnew (old := #[]) (by intro q; simp [Builtin.firstCells]) (by simp) (by simp [hVl])).2 (by omega)
    obtain ⟨cap, rest, w1, hcap, hrest, f1, f2, f3, f4, hr⟩ := hgo
    refine (hEnd none 0 0 vb vcap w w1 _ (fun _ => rfl) (fun a h => by cases h) (Nat.le_refl _) (fun ty => hr)).mono ?_
    rintro e w' ⟨rfl, rfl⟩
    have O : InsOut w w' none w.heap.size cap vs := by
      refine ⟨f1, f2, f3, by rw [f4]; simp, by rw [f4]; simp, .inr (Nat.le_refl _), fun k hk _ => by rw [f4, Array.getElem?_push, if_neg (by omega)], #[] ++ vs.toArray ++ rest, tE, (0, 0), by rw [f4]; exact Array.getElem?_push_size, ?_, by simp, fun j v hj => ?_⟩
      · simp only [Array.empty_append, Array.size_append, List.size_toArray, hVl, hrest]; omega
      · rw [Array.empty_append, Array.getElem?_append_left (by simpa using (List.getElem?_eq_some_iff.1 hj).1)]
        simpa using hj
    refine fin none (fun b h => by cases h) w.heap.size cap vs w' O (by omega) (fun k j r t h => by rw [hrn] at h; simp at h) (fun k r h => by rw [hrn] at h; simp at h) ?_
    simpa [hrn] using hV
  | row _ _ _ _ cap sz b hE hfit _ =>
    have hE' : E0 0 = some (.blk b cap sz) := hE
    rw [hE'] at hl1; cases hl1
    obtain ⟨e1, hob⟩ := hr1
    rw [c1] at e1; subst e1
    obtain ⟨arr, et, fr, m1, m2, m3, m4⟩ := hob.mem
    rw [c1] at m2 m4
    have m1' : w.heap[b]? = some (.cells arr et fr) := m1
    have hcl : ∀ (k j : Nat) (r : List T) (t : T), ob.rows[k]? = some r → r[j]? = some t → Closed t := hob.cl c2
    have hwd : ∀ (k : Nat) (r : List T), ob.rows[k]? = some r → r.length = 7 := by have := hob.width; rwa [c1] at this
    have hlc : len ≤ cap := by have := hob.len; omega
    obtain ⟨hC, hCl⟩ := ob_flat hob c1 m1 len c3
    obtain ⟨cs, hcs⟩ : ∃ cs, cs = arr.toList.take (len * 7) := ⟨_, rfl⟩
    rw [← hcs] at hC hCl
    have hccell : ∀ (j : Nat) (v : Value), cs[j]? = some v → arr[j]? = some v := by
      intro j v hj
      rw [hcs, List.getElem?_take] at hj
      split at hj
      · rwa [Array.getElem?_toList] at hj
      · cases hj
    have hbcell : ∀ (j : Nat) (v : Value), cs[j]? = some v → w.cell? ⟨b, j, none⟩ = some v := by
      intro j v hj
      simp only [World.cell?, m1', Option.isSome_none, Bool.false_eq_true, if_false]; exact hccell j v hj
    have hfz : ∀ o, o ≤ arr.size → w.frozen? ⟨b, o, none⟩ = false := by
      intro o ho
      have := m3 o ho
      simp only [World.frozen?, m1', Bool.and_eq_false_iff, decide_eq_false_iff_not]
      omega
    have h7 : m * 7 ≤ cs.length := by rw [hCl]; omega
    have hx0 : (Value.slice (some ((baseA b).add (0 * 7))) len (cap - 0)) = .slice (some ⟨b, 0, none⟩) len cap := by
      rw [baseA_add]; simp
    rw [hx0]
    have hR : RepL (cx F Pr E0 [(0, ob), (2, ob2)] w) (ob.rows.take m ++ ob2.rows ++ (ob.rows.take len).drop m).flatten (cs.take (m * 7) ++ vs ++ cs.drop (m * 7)) := by
      have hsp : (ob.rows.take len).flatten = (ob.rows.take m).flatten ++ ((ob.rows.take len).drop m).flatten := by
        rw [← List.flatten_append]
        congr 1
        have := (List.take_append_drop m (ob.rows.take len)).symm
        rwa [List.take_take, Nat.min_eq_left hm] at this
      have hfl : (ob.rows.take m).flatten.length = m * 7 := by
        have := flat_length (sz := 7) (rows := ob.rows.take m) (width_take hwd)
        rw [this]; simp; omega
      have hA := hC.take (m * 7)
      have hD := hC.drop (m * 7)
      rw [hsp, List.take_left' hfl] at hA
      rw [hsp, List.drop_left' hfl] at hD
      rw [List.flatten_append, List.flatten_append]
      exact (hA.append hV).append hD
    have hbs : b < w.heap.size := by
      rcases Nat.lt_or_ge b w.heap.size with q | q
      · exact q
      · rw [Array.getElem?_eq_none q] at m1'; cases m1'
    have hb0 : ∀ b_1, some b = some b_1 → ∃ cap, E0 0 = some (.blk b_1 cap 7) := fun b1 h => by cases h; exact ⟨cap, hE'⟩
    have hbA : (⟨b, 0, none⟩ : Addr) = baseA b := rfl
    by_cases hme : m = len
    · subst hme
      have hold : ∀ q, (Builtin.firstCells 7 m (.slice (some (baseA b)) m cap)).run P { w with drawn := q } = .ok cs.toArray { w with drawn := q } := fun q =>
        run_firstCells_some (P := P) (w := { w with drawn := q }) 7 m (baseA b) m cap cs hCl (fun j v hj => by rw [baseA_add]; exact hbcell j v hj)
      have hgo := app_go (P := P) (w := w) (tyr := tS) (base := some (baseA b)) (sLen := m) (sCap := cap) he hsz (slice_u he) (fun k => by simp) hby hzv hzc hbytes (k := 1) (by omega) hlv hnew (old := cs.toArray) hold (by simp [hCl]) (by simp [hVl])
      have hcsd : cs.drop (m * 7) = [] := List.drop_eq_nil_of_le (by omega)
      have hcst : cs.take (m * 7) = cs := List.take_of_length_le (by omega)
      by_cases hroom : m + 1 ≤ cap
      · have hst := run_storeCells_cells (P := P) b (m * 7) vs 0 w (fun j hj => by
            rw [World.cell?, m1']
            simp only [Option.isSome_none, Bool.false_eq_true, if_false]
            rw [Array.getElem?_eq_getElem (by rw [m2]; omega)]; rfl) (fun j hj => hfz _ (by rw [m2]; omega)) hV.one
        have hrun := hgo.1 hroom (w.setCells b (m * 7 + 0) vs) (by simp only; rw [baseA_add]; exact hst)
        refine (hEnd (some ⟨b, 0, none⟩) m cap vb vcap w _ _ (fun h => by cases h) (fun a h => ⟨b, (Option.some.inj h).symm⟩) hlc (fun ty => hrun)).mono ?_
        rintro e w' ⟨rfl, rfl⟩
        refine fin (some b) hb0 b cap _ _ (out_store (o := m * 7) (vs := vs) m1' m2 m3 (by rw [m2, hVl]; omega) rfl fun j v hj => ?_) hroom hcl hwd hR
        rcases row3_get h7 hVl hj with ⟨q1, q2⟩ | ⟨q1, q2, q3⟩ | ⟨q1, q2, q3⟩
        · rw [if_neg (by omega)]; exact hccell j v q2
        · rw [if_pos ⟨by omega, by omega⟩]; simpa using q3
        · rw [hcsd] at q3; simp at q3
      · obtain ⟨cap2, rest, w1, hcap, hrest, f1, f2, f3, f4, hr⟩ := hgo.2 (by omega)
        refine (hEnd (some ⟨b, 0, none⟩) m cap vb vcap w w1 _ (fun h => by cases h) (fun a h => ⟨b, (Option.some.inj h).symm⟩) hlc (fun ty => hr)).mono ?_
        rintro e w' ⟨rfl, rfl⟩
        have O : InsOut w w' none w.heap.size cap2 (cs.take (m * 7) ++ vs ++ cs.drop (m * 7)) := by
          refine ⟨f1, f2, f3, by rw [f4]; simp, by rw [f4]; simp, .inr (Nat.le_refl _), fun k hk _ => by rw [f4, Array.getElem?_push, if_neg (by omega)], cs.toArray ++ vs.toArray ++ rest, tE, (0, 0), by rw [f4]; exact Array.getElem?_push_size, ?_, by simp, fun j v hj => ?_⟩
          · simp only [Array.size_append, List.size_toArray, hVl, hCl, hrest]; omega
          · rw [hcsd, hcst, List.append_nil] at hj
            have hjl : j < (cs ++ vs).length := (List.getElem?_eq_some_iff.1 hj).1
            have e3 : cs.toArray ++ vs.toArray = (cs ++ vs).toArray := by simp
            rw [e3, Array.getElem?_append_left (by simpa using hjl)]
            simpa using hj
        exact fin none (fun b h => by cases h) w.heap.size cap2 _ w' O hcap hcl hwd hR
    · have hml : m < len := by omega
      by_cases hroom : len + 1 ≤ cap
      · refine (hShift b len cap m vb vcap cs vs w hml hroom c6 ?_ hCl hVl hbcell ?_ ?_ hvcell hC.one hV.one et2 et arr2.size arr.size ?_ ?_ ?_ (hfzv 0 (Nat.zero_le _)) (hfzv _ (Nat.le_refl _))).mono ?_
        · intro q
          have := En.dist 0 2 ob ob2 b cap 7 vcap 7 (by simp [get]) (by simp [get]) (by rw [v1]; exact hE') (by rw [v2, hvE', q])
          omega
        · intro j hj
          rw [World.cell?, m1']
          simp only [Option.isSome_none, Bool.false_eq_true, if_false]
          have : (len + 1) * 7 ≤ cap * 7 := Nat.mul_le_mul_right 7 hroom
          rw [Array.getElem?_eq_getElem (by rw [m2]; omega)]; rfl
        · intro j hj
          have : (len + 1) * 7 ≤ cap * 7 := Nat.mul_le_mul_right 7 hroom
          exact hfz _ (by rw [m2]; omega)
        · simp [World.shape?, n1']
        · simp [World.shape?, m1']
        · rw [m2]; omega
        · rintro e w' ⟨rfl, rfl⟩
          have hdl : (cs.drop (m * 7)).length = len * 7 - m * 7 := by rw [List.length_drop, hCl]
          have h8 : (len + 1) * 7 ≤ cap * 7 := Nat.mul_le_mul_right 7 hroom
          obtain ⟨arr3, g1, g2, g3, g4, g5, g6, g7, g8⟩ := setCells_block (cs.drop (m * 7)) ((m + 1) * 7) arr w.drew m1' (by rw [hdl, m2]; omega)
          obtain ⟨arr4, k1, k2, k3, k4, k5, k6, k7, k8⟩ := setCells_block vs (m * 7) arr3 _ g1 (by rw [hVl, g2, m2]; omega)
          have O : InsOut w ((w.drew.setCells b ((m + 1) * 7) (cs.drop (m * 7))).setCells b (m * 7) vs) (some b) b cap (cs.take (m * 7) ++ vs ++ cs.drop (m * 7)) := by
            refine ⟨k4.trans g4, k5.trans g5, k6.trans g6, by rw [k7, g7]; exact Nat.le_refl _, by rw [k7, g7]; exact hbs, .inl rfl, fun q _ hq => (k8 q fun z => hq (by rw [z])).trans (g8 q fun z => hq (by rw [z])), arr4, et, fr, k1, by rw [k2, g2, m2], fun o ho => m3 o (by omega), fun j v hj => ?_⟩
            rw [k3, g3]
            rcases row3_get h7 hVl hj with ⟨q1, q2⟩ | ⟨q1, q2, q3⟩ | ⟨q1, q2, q3⟩
            · rw [if_neg (by omega), if_neg (by omega)]; exact hccell j v q2
            · rw [if_pos ⟨by omega, by omega⟩]; exact q3
            · rw [if_neg (by omega), if_pos ⟨by omega, by omega⟩, show j - (m + 1) * 7 = j - (m * 7 + 7) by omega]; exact q3
          exact fin (some b) hb0 b cap _ _ O hroom hcl hwd hR
      · refine (hGrow b len cap m vb vcap cs vs w hml hlc (by omega) c6 hCl hVl hbcell hvcell hC.one hV.one).mono ?_
        rintro e w' ⟨G, row, hG, hrs, rfl, hrt, rfl⟩
        have hdl : (cs.drop (m * 7)).length = len * 7 - m * 7 := by rw [List.length_drop, hCl]
        have h8 : (len + 1) * 7 ≤ G * 7 := Nat.mul_le_mul_right 7 hG
        have hm0 : ((w.alloc (.cells row tE)).drew).heap[w.heap.size]? = some (.cells row tE (0, 0)) := Array.getElem?_push_size
        obtain ⟨arr3, g1, g2, g3, g4, g5, g6, g7, g8⟩ := setCells_block vs (m * 7) row _ hm0 (by rw [hVl, hrs]; omega)
        obtain ⟨arr4, k1, k2, k3, k4, k5, k6, k7, k8⟩ := setCells_block (cs.drop (m * 7)) ((m + 1) * 7) arr3 (((w.alloc (.cells row tE)).drew.setCells w.heap.size (m * 7) vs).drew) g1 (by rw [hdl, g2, hrs]; omega)
        have hsz2 : ((w.alloc (.cells row tE)).drew).heap.size = w.heap.size + 1 := Array.size_push ..
        have O : InsOut w ((((w.alloc (.cells row tE)).drew.setCells w.heap.size (m * 7) vs).drew).setCells w.heap.size ((m + 1) * 7) (cs.drop (m * 7))) none w.heap.size G (cs.take (m * 7) ++ vs ++ cs.drop (m * 7)) := by
          refine ⟨k4.trans g4, k5.trans g5, k6.trans g6, ?_, ?_, .inr (Nat.le_refl _), fun q hq _ => ?_, arr4, tE, (0, 0), k1, by rw [k2, g2, hrs], by simp, fun j v hj => ?_⟩
          · rw [k7]; show w.heap.size ≤ (((w.alloc (.cells row tE)).drew.setCells w.heap.size (m * 7) vs)).heap.size
            rw [g7, hsz2]; omega
          · rw [k7]; show w.heap.size < (((w.alloc (.cells row tE)).drew.setCells w.heap.size (m * 7) vs)).heap.size
            rw [g7, hsz2]; omega
          · refine (k8 q (by omega)).trans ((g8 q (by omega)).trans ?_)
            show (w.heap.push _)[q]? = _
            rw [Array.getElem?_push, if_neg (by omega)]
          · rw [k3, g3]
            rcases row3_get h7 hVl hj with ⟨q1, q2⟩ | ⟨q1, q2, q3⟩ | ⟨q1, q2, q3⟩
            · rw [if_neg (by omega), if_neg (by omega), hrt j q1]; exact q2
            · rw [if_neg (by omega), if_pos ⟨by omega, by omega⟩]; exact q3
            · rw [if_pos ⟨by omega, by omega⟩, show j - (m + 1) * 7 = j - (m * 7 + 7) by omega]; exact q3
        exact fin none (fun b h => by cases h) w.heap.size G _ _ O hG hcl hwd hR
end
end Mx

namespace Mx
open Go
def impl_copyBoxes.l0 : C := .seq (.reg [Q 10 (.bin .lss (.t 9) (.t 8))] [3,7,8,9,10] [6,17])
  (.seq (.cond (.t 10) (.skip) (.exit 0))
  (.seq (.block 1 (.seq (.reg [Qa 11 7 7 9, QL 12 7 11, Q 5 (.alloc [.int .i64 0, .str ⟨#[]⟩, .int .i64 0, .int .i64 0, .int .i64 0, .nils 4, .nils 1]), Qs 7 5 12] [3,5,7,8,9] [5,6,17])
  (.reg [Qm 13 3, QL 14 7 5, Q 15 (.call 155 [.t 14] [] []), Q 16 (.bslice 7 1 [.int .i64 0, .str ⟨#[]⟩, .int .i64 0, .int .i64 0, .int .i64 0, .nils 4, .nils 1] [(0, .t 15)]),
    Q 17 (.app 7 96 (.t 13) (.t 16)), Qm 3 17] [3,7,8,9] [6,17])))
  (.reg [Q 18 (.bin .add (.t 9) (kI 1)), Qm 9 18] [3,7,8,9] [6,17])))
def impl_copyBoxes.b : C := .seq (.reg [Q 2 (.nil 7)] [0] [])
  (.seq (.reg [Q 6 (.bslice 7 0 [.int .i64 0, .str ⟨#[]⟩, .int .i64 0, .int .i64 0, .int .i64 0, .nils 4, .nils 1] []), Qm 3 6] [0,3] [6,17])
  (.seq (.seq (.reg [Qm 7 0, Q 8 (.len (.t 7)), Qi 9 0] [3,7,8,9] [6,17])
  (.block 0 (.loop impl_copyBoxes.l0)))
  (.seq (.reg [Qm 19 3, Qm 2 19] [2] [2,6,17])
  (.ret))))
def impl_copyBoxes.m : Fn := { np := 1, body := impl_copyBoxes.b, res := [.tmp 2] }
def impl_copyBoxes.k (M : Nat → Option Body) : Prop := M 270 = some (.code impl_copyBoxes.m) ∧ impl_copyBox.k M
def impl_copyStore.b : C := .seq (.reg [Qv 1 0, Q 2 (.alloc [.int .i64 0, .int .i64 0, .nils 7, .nils 1])] [1,2] [1,2,10900,11200])
  (.seq (.regd [Qf 3 0 1, Ql 4 3, Qf 5 1 1, Ql 6 5, Qf 7 2 1, Ql 8 7, Q 9 (.call 270 [.t 8] [] [(0, 10900)]), Qf 10 3 1, Ql 11 10, Q 12 (.call 134 [.t 11] [] [(0, 11200)]),
    Q 13 (.build [.int .i64 0, .int .i64 0, .nils 7, .nils 1] [(0, 1, .t 4), (1, 1, .t 6), (2, 1, .t 9), (3, 1, .t 12)]), Qs 4 2 13] [[], [0], [], [2], [], [4], [4,5], [], [7], [4,5,6,7,8], lr 10, lr 11] [2] [2,10900,11200])
  (.ret))
def impl_copyStore.m : Fn := { np := 1, body := impl_copyStore.b, res := [.cell 2 true 4] }
def impl_copyStore.k (M : Nat → Option Body) : Prop := M 220 = some (.code impl_copyStore.m) ∧ impl_copyInts.k M ∧ impl_copyBoxes.k M
def impl_Knows.l0 : C := .seq (.reg [Q 11 (.bin .lss (.t 10) (.t 9))] [1,2,8,9,10,11] [2])
  (.seq (.cond (.t 11) (.skip) (.exit 0))
  (.seq (.block 1 (.seq (.reg [Qa 12 7 8 10, QL 13 7 12, Q 6 (.alloc [.int .i64 0, .str ⟨#[]⟩, .int .i64 0, .int .i64 0, .int .i64 0, .nils 4, .nils 1]), Qs 7 6 13] [1,2,6,8,9,10] [2,6])
  (.seq (.reg [Qf 14 0 6, Ql 15 14, Qm 16 1, Q 17 (.bin .eql (.t 15) (.t 16)), Qm 18 17, Qg 19 (.load true 7 (.t 6)) 18 false, Qg 20 (.mv (.t 1)) 18 false,
    Qg 21 (.call 72 [.t 19, .t 20] [] []) 18 false, Qg 22 (.bin .geq (.t 21) (kI 0)) 18 false, Q 23 (.pick (.t 18) (kB true) (.t 22)), Qm 24 23, Qg 25 (.faddr 6 (.t 6)) 24 false,
    Qg 26 (.load false 1 (.t 25)) 24 false, Qg 27 (.mv (.t 1)) 24 false, Qg 28 (.call 156 [.t 26, .t 27] [] []) 24 false, Q 29 (.pick (.t 24) (kB true) (.t 28))] [1,2,8,9,10,29] [2])
  (.cond (.t 29) (.seq (.reg [Qb 4 true] [4] [])
  (.ret)) (.skip)))))
  (.reg [Q 30 (.bin .add (.t 10) (kI 1)), Qm 10 30] [1,2,8,9,10] [2])))
def impl_Knows.b : C := .seq (.reg [Qv 2 0, Qb 4 false] [1,2] [2])
  (.seq (.seq (.reg [Qf 7 2 2, Ql 8 7, Q 9 (.len (.t 8)), Qi 10 0] [1,2,8,9,10] [2])
  (.block 0 (.loop impl_Knows.l0)))
  (.seq (.reg [Qf 31 3 2, Ql 32 31, Qm 33 1, Q 34 (.call 156 [.t 32, .t 33] [] []), Qm 4 34] [4] [])
  (.ret)))
def impl_Knows.m : Fn := { np := 2, body := impl_Knows.b, res := [.tmp 4] }
def impl_Knows.k (M : Nat → Option Body) : Prop := M 413 = some (.code impl_Knows.m) ∧ impl_MailAt.k M ∧ slices_Contains_int_int.k M
def impl_NextStamp.b : C := .seq (.reg [Qv 1 0, Q 2 (.alloc [.int .i64 0, .int .i64 0])] [1,2] [1,2])
  (.seq (.reg [Qf 3 1 1, Ql 4 3, Q 5 (.bin .add (.t 4) (kI 1)), Qf 6 0 1, Ql 7 6, Q 8 (.build [.int .i64 0, .int .i64 0] [(0, 1, .t 5), (1, 1, .t 7)]), Qs 2 2 8] [2] [2])
  (.ret))
def impl_NextStamp.m : Fn := { np := 1, body := impl_NextStamp.b, res := [.cell 2 true 2] }
def impl_NextStamp.k (M : Nat → Option Body) : Prop := M 431 = some (.code impl_NextStamp.m)
def impl_orElse.b : C := .seq (.reg [Qv 2 0, Qv 3 1, Q 4 (.alloc [.int .i64 0, .int .i64 0, .nils 7, .nils 1]), Qb 5 false] [2,3,4] [2,3,4])
  (.seq (.seq (.reg [QL 6 4 2, Q 7 (.call 150 [.t 6] [] []), Q 8 (.not (.t 7))] [2,3,4,8] [2,3,4])
  (.cond (.t 8) (.seq (.reg [QL 9 4 3, Q 10 (.call 220 [.t 9] [] []), Qs 4 4 10, Qb 5 false] [4,5] [4])
  (.ret)) (.skip)))
  (.seq (.reg [QL 11 4 2, Qs 4 4 11, Qb 5 true] [4,5] [4])
  (.ret)))
def impl_orElse.m : Fn := { np := 2, body := impl_orElse.b, res := [.cell 4 true 4, .tmp 5] }
def impl_orElse.k (M : Nat → Option Body) : Prop := M 441 = some (.code impl_orElse.m) ∧ impl_StoreOk.k M ∧ impl_copyStore.k M
def impl_MakeBox.l0 : C := .seq (.seq (.reg [Qm 27 9, Qf 28 2 8, Ql 29 28, Q 30 (.len (.t 29)), Q 31 (.bin .lss (.t 27) (.t 30)), Qm 32 31, Qg 33 (.faddr 2 (.t 8)) 32 true, Qg 34 (.load false 1 (.t 33)) 32 true,
    Qg 35 (.mv (.t 9)) 32 true, Qg 36 (.iaddr 7 (.t 34) (.t 35)) 32 true, Qg 37 (.faddr 0 (.t 36)) 32 true, Qg 38 (.load false 1 (.t 37)) 32 true, Qg 39 (.mv (.t 1)) 32 true,
    Qg 40 (.bin .lss (.t 38) (.t 39)) 32 true, Q 41 (.pick (.t 32) (.t 40) (kB false))] [1,2,3,6,8,9,41] [3,6,8,11102,11103,15700,16102,16103])
  (.cond (.t 41) (.skip) (.exit 0)))
  (.block 1 (.reg [Qm 42 9, Q 43 (.bin .add (.t 42) (kI 1)), Qm 9 43] [1,2,3,6,8,9] [3,6,8,11102,11103,15700,16102,16103]))
def impl_MakeBox.b : C := .seq (.reg [Qv 3 0, Q 6 (.alloc [.int .i64 0, .int .i64 0, .nils 7, .nils 1]), Qb 7 false] [1,2,3,6] [3,6,11102,11103,15700])
  (.seq (.reg [QL 10 4 3, Q 11 (.call 220 [.t 10] [] [(2, 11102), (3, 11103)]), Q 8 (.alloc [.int .i64 0, .int .i64 0, .nils 7, .nils 1]), Qs 4 8 11] [1,2,3,6,8] [3,6,8,11102,11103,15700])
  (.seq (.seq (.reg [QL 12 4 3, Q 13 (.call 150 [.t 12] [] []), Q 14 (.not (.t 13)), Qm 15 14, Qg 16 (.load true 4 (.t 3)) 15 false, Qg 17 (.mv (.t 1)) 15 false,
    Qg 18 (.call 413 [.t 16, .t 17] [] []) 15 false, Q 19 (.pick (.t 15) (kB true) (.t 18)), Qm 20 19, Qg 21 (.load true 4 (.t 3)) 20 false, Qg 22 (.mv (.t 2)) 20 false,
    Qg 23 (.call 228 [.t 21, .t 22] [] []) 20 false, Qg 24 (.bin .geq (.t 23) (kI 0)) 20 false, Q 25 (.pick (.t 20) (kB true) (.t 24))] [1,2,3,6,8,25] [3,6,8,11102,11103,15700])
  (.cond (.t 25) (.seq (.shut [11102,11103,15700] (.reg [QL 26 4 8, Qs 4 6 26, Qb 7 false] [6,7] [6,11102,11103,15700]))
  (.ret)) (.skip)))
  (.seq (.reg [Qi 9 0] [1,2,3,6,8,9] [3,6,8,11102,11103,15700])
  (.seq (.block 0 (.loop impl_MakeBox.l0))
  (.seq (.reg [Qf 44 1 8, Ql 45 44, Q 46 (.bin .add (.t 45) (kI 1)), Qf 47 1 8, Qs 1 47 46] [1,2,3,6,8,9] [3,6,8,11102,11103,15700])
  (.seq (.regd [Qf 48 2 8, Ql 49 48, Qm 50 9, Qm 51 1, Qm 52 2, QL 53 4 3, Q 54 (.call 431 [.t 53] [] []),
    Q 55 (.build [.int .i64 0, .str ⟨#[]⟩, .int .i64 0, .int .i64 0, .int .i64 0, .nils 4, .nils 1] [(0, 1, .t 51), (1, 1, .t 52), (2, 2, .t 54), (4, 1, kI 1)]),
    Q 56 (.bslice 7 1 [.int .i64 0, .str ⟨#[]⟩, .int .i64 0, .int .i64 0, .int .i64 0, .nils 4, .nils 1] [(0, .t 55)]), Q 57 (.call 440 [.t 49, .t 50, .t 56] [0,2] [(0, 15700)]),
    Qf 58 2 8, Qs 1 58 57] [[], [0], [], [], [], [], [5], [3,4,5,6], [3,4,5,6,7], lr 9, lr 10, lr 11] [3,6,8] [3,6,8,11102,11103,15700])
  (.seq (.shut [11102,11103,15700] (.reg [QL 59 4 8, QL 60 4 3, Q 61 (.call 441 [.t 59, .t 60] [] []), Qx 62 0 61, Qx 63 1 61, Qs 4 6 62, Qm 7 63] [6,7] [6,11102,11103,15700]))
  (.ret))))))))
def impl_MakeBox.m : Fn := { np := 3, body := impl_MakeBox.b, res := [.cell 6 true 4, .tmp 7] }
def impl_MakeBox.k (M : Nat → Option Body) : Prop := M 409 = some (.code impl_MakeBox.m) ∧ impl_StoreOk.k M ∧ impl_copyStore.k M ∧ impl_BoxNamed.k M ∧ impl_Knows.k M ∧ impl_NextStamp.k M ∧ M 440 = some (.ext insG) ∧ impl_orElse.k M
def impl_PutMail.b : C := .seq (.reg [Qv 5 0, Q 10 (.alloc [.int .i64 0, .int .i64 0, .nils 7, .nils 1]), Qb 11 false] [1,2,3,4,5,10] [5,10,11702,11703])
  (.seq (.reg [QL 16 4 5, Q 17 (.call 220 [.t 16] [] [(2, 11702), (3, 11703)]), Q 12 (.alloc [.int .i64 0, .int .i64 0, .nils 7, .nils 1]), Qs 4 12 17] [1,2,3,4,5,10,12] [5,10,12,11702,11703])
  (.seq (.reg [QL 18 4 5, Qm 19 1, Q 20 (.call 95 [.t 18, .t 19] [] []), Qm 13 20] [2,3,4,5,10,12,13] [5,10,12,11702,11703])
  (.seq (.seq (.reg [QL 21 4 5, Q 22 (.call 150 [.t 21] [] []), Q 23 (.not (.t 22)), Qm 24 23, Qg 25 (.load true 4 (.t 5)) 24 false, Qg 26 (.mv (.t 2)) 24 false,
    Qg 27 (.call 413 [.t 25, .t 26] [] []) 24 false, Q 28 (.pick (.t 24) (kB true) (.t 27)), Qm 29 28, Qg 30 (.mv (.t 13)) 29 false, Qg 31 (.bin .lss (.t 30) (kI 0)) 29 false,
    Q 32 (.pick (.t 29) (kB true) (.t 31))] [2,3,4,5,10,12,13,32] [5,10,12,11702,11703])
  (.cond (.t 32) (.seq (.shut [11702,11703] (.reg [QL 33 4 12, Qs 4 10 33, Qb 11 false] [10,11] [10,11702,11703]))
  (.ret)) (.skip)))
  (.seq (.regd [Qf 35 2 5, Ql 36 35, Qm 37 13, Qa 38 7 36 37, QL 39 7 38, Qm 40 2, Qm 41 3, Qm 42 4, QL 43 4 5, Q 44 (.call 431 [.t 43] [] []),
    Q 45 (.call 70 [.t 39, .t 40, .t 41, .t 42, .t 44] [] []), Qm 34 45, Qx 46 0 34, Qx 47 1 34,
    Q 14 (.alloc [.int .i64 0, .str ⟨#[]⟩, .int .i64 0, .int .i64 0, .int .i64 0, .nils 4, .nils 1]), Qs 7 14 46, Qm 15 47] [[], [0], [], [0,1,2], lr 4, [], [], [], [], [8], lr 10, lr 11, lr 12, lr 12, [], lr 13 ++ [14], lr 16] [5,10,12,13,14,15] [5,10,12,14,11702,11703])
  (.seq (.seq (.reg [Qm 48 15, Q 49 (.not (.t 48))] [5,10,12,13,14,49] [5,10,12,14,11702,11703])
  (.cond (.t 49) (.seq (.shut [11702,11703] (.reg [QL 50 4 12, Qs 4 10 50, Qb 11 false] [10,11] [10,11702,11703]))
  (.ret)) (.skip)))
  (.seq (.reg [Qf 51 1 12, Ql 52 51, Q 53 (.bin .add (.t 52) (kI 1)), Qf 54 1 12, Qs 1 54 53] [5,10,12,13,14] [5,10,12,14,11702,11703])
  (.seq (.reg [Qf 55 2 12, Ql 56 55, Qm 57 13, QL 58 7 14, Qa 59 7 56 57, Qs 7 59 58] [5,10,12] [5,10,12,11702,11703])
  (.seq (.shut [11702,11703] (.reg [QL 60 4 12, QL 61 4 5, Q 62 (.call 441 [.t 60, .t 61] [] []), Qx 63 0 62, Qx 64 1 62, Qs 4 10 63, Qm 11 64] [10,11] [10,11702,11703]))
  (.ret)))))))))
def impl_PutMail.m : Fn := { np := 5, body := impl_PutMail.b, res := [.cell 10 true 4, .tmp 11] }
def impl_PutMail.k (M : Nat → Option Body) : Prop := M 410 = some (.code impl_PutMail.m) ∧ impl_AddMail.k M ∧ impl_BoxAt.k M ∧ impl_StoreOk.k M ∧ impl_copyStore.k M ∧ impl_Knows.k M ∧ impl_NextStamp.k M ∧ impl_orElse.k M
def impl_RenameBox.b : C := .seq (.reg [Qv 3 0, Q 6 (.alloc [.int .i64 0, .int .i64 0, .nils 7, .nils 1]), Qb 7 false] [1,2,3,6] [3,6,11102,11103])
  (.seq (.reg [QL 10 4 3, Q 11 (.call 220 [.t 10] [] [(2, 11102), (3, 11103)]), Q 8 (.alloc [.int .i64 0, .int .i64 0, .nils 7, .nils 1]), Qs 4 8 11] [1,2,3,6,8] [3,6,8,11102,11103])
  (.seq (.reg [QL 12 4 3, Qm 13 1, Q 14 (.call 95 [.t 12, .t 13] [] []), Qm 9 14] [2,3,6,8,9] [3,6,8,11102,11103])
  (.seq (.seq (.reg [QL 15 4 3, Q 16 (.call 150 [.t 15] [] []), Q 17 (.not (.t 16)), Qm 18 17, Qg 19 (.mv (.t 9)) 18 false, Qg 20 (.bin .lss (.t 19) (kI 0)) 18 false,
    Q 21 (.pick (.t 18) (kB true) (.t 20)), Qm 22 21, Qg 23 (.load true 4 (.t 3)) 22 false, Qg 24 (.mv (.t 2)) 22 false, Qg 25 (.call 228 [.t 23, .t 24] [] []) 22 false,
    Qg 26 (.bin .geq (.t 25) (kI 0)) 22 false, Q 27 (.pick (.t 22) (kB true) (.t 26))] [2,3,6,8,9,27] [3,6,8,11102,11103])
  (.cond (.t 27) (.seq (.shut [11102,11103] (.reg [QL 28 4 8, Qs 4 6 28, Qb 7 false] [6,7] [6,11102,11103]))
  (.ret)) (.skip)))
  (.seq (.reg [Qf 29 1 8, Ql 30 29, Q 31 (.bin .add (.t 30) (kI 1)), Qf 32 1 8, Qs 1 32 31] [2,3,6,8,9] [3,6,8,11102,11103])
  (.seq (.reg [Qf 33 2 8, Ql 34 33, Qm 35 9, Qm 36 2, Qa 37 7 34 35, Qf 38 1 37, Qs 1 38 36] [3,6,8,9] [3,6,8,11102,11103])
  (.seq (.regd [Qf 39 2 8, Ql 40 39, Qm 41 9, QL 42 4 3, Q 43 (.call 431 [.t 42] [] []), Qa 44 7 40 41, Qf 45 2 44, Qs 2 45 43] [[], [0], [], [], [3], lr 5, lr 6, lr 7] [3,6,8] [3,6,8,11102,11103])
  (.seq (.shut [11102,11103] (.reg [QL 46 4 8, QL 47 4 3, Q 48 (.call 441 [.t 46, .t 47] [] []), Qx 49 0 48, Qx 50 1 48, Qs 4 6 49, Qm 7 50] [6,7] [6,11102,11103]))
  (.ret))))))))
def impl_RenameBox.m : Fn := { np := 3, body := impl_RenameBox.b, res := [.cell 6 true 4, .tmp 7] }
def impl_RenameBox.k (M : Nat → Option Body) : Prop := M 411 = some (.code impl_RenameBox.m) ∧ impl_BoxAt.k M ∧ impl_StoreOk.k M ∧ impl_copyStore.k M ∧ impl_BoxNamed.k M ∧ impl_NextStamp.k M ∧ impl_orElse.k M
def slices_Delete_impl_Box_impl_Box.b : C := .seq (.reg [Q 6 (.nil 7)] [0,1,2] [0,26])
  (.seq (.reg [Qm 8 0, Qm 9 1, Qm 10 2, Qm 11 0, Q 12 (.len (.t 11)), Q 13 (.slc 7 (.t 8) (some (.t 9)) (some (.t 10)) (some (.t 12)))] [0,1,2] [0,26])
  (.seq (.seq (.reg [Qm 14 1, Qm 15 2, Q 16 (.bin .eql (.t 14) (.t 15))] [0,1,2,16] [0,26])
  (.cond (.t 16) (.seq (.reg [Qm 17 0, Qm 6 17] [6] [0,6,26])
  (.ret)) (.skip)))
  (.seq (.reg [Qm 18 0, Q 19 (.len (.t 18)), Qm 7 19] [0,1,2,7] [0,26])
  (.seq (.regd [Qm 20 0, Qm 21 1, Q 22 (.slc 7 (.t 20) none (some (.t 21)) none), Qm 23 0, Qm 24 2, Q 25 (.slc 7 (.t 23) (some (.t 24)) none none), Q 26 (.appi 7 96 (.t 22) (.t 25)), Qm 0 26] [[], [], [0,1], [], [], [3,4], lr 6, lr 7] [0,7] [0,26])
  (.seq (.reg [Qm 27 0, Qm 28 0, Q 29 (.len (.t 28)), Qm 30 7, Q 31 (.slce 7 (.t 27) (some (.t 29)) (some (.t 30))),
    Qn (.clr [.int .i64 0, .str ⟨#[]⟩, .int .i64 0, .int .i64 0, .int .i64 0, .nils 4, .nils 1] (.t 31))] [0] [0,26])
  (.seq (.reg [Qm 32 0, Qm 6 32] [6] [0,6,26])
  (.ret)))))))
def slices_Delete_impl_Box_impl_Box.m : Fn := { np := 3, body := slices_Delete_impl_Box_impl_Box.b, res := [.tmp 6] }
def slices_Delete_impl_Box_impl_Box.k (M : Nat → Option Body) : Prop := M 442 = some (.code slices_Delete_impl_Box_impl_Box.m)
def impl_DropBox.b : C := .seq (.reg [Qv 2 0, Q 4 (.alloc [.int .i64 0, .int .i64 0, .nils 7, .nils 1]), Qb 5 false] [1,2,4] [2,4,10902,10903,13200,13700])
  (.seq (.reg [QL 8 4 2, Q 9 (.call 220 [.t 8] [] [(2, 10902), (3, 10903)]), Q 6 (.alloc [.int .i64 0, .int .i64 0, .nils 7, .nils 1]), Qs 4 6 9] [1,2,4,6] [2,4,6,10902,10903,13200,13700])
  (.seq (.reg [QL 10 4 2, Qm 11 1, Q 12 (.call 95 [.t 10, .t 11] [] []), Qm 7 12] [1,2,4,6,7] [2,4,6,10902,10903,13200,13700])
  (.seq (.seq (.reg [QL 13 4 2, Q 14 (.call 150 [.t 13] [] []), Q 15 (.not (.t 14)), Qm 16 15, Qg 17 (.mv (.t 7)) 16 false, Qg 18 (.bin .lss (.t 17) (kI 0)) 16 false,
    Q 19 (.pick (.t 16) (kB true) (.t 18)), Qm 20 19, Qg 21 (.faddr 3 (.t 2)) 20 false, Qg 22 (.load false 1 (.t 21)) 20 false, Qg 23 (.len (.t 22)) 20 false,
    Qg 24 (.bin .eql (.t 23) (kI 20)) 20 false, Q 25 (.pick (.t 20) (kB true) (.t 24))] [1,2,4,6,7,25] [2,4,6,10902,10903,13200,13700])
  (.cond (.t 25) (.seq (.shut [10902,10903,13200,13700] (.reg [QL 26 4 6, Qs 4 4 26, Qb 5 false] [4,5] [4,10902,10903,13200,13700]))
  (.ret)) (.skip)))
  (.seq (.reg [Qf 27 2 6, Ql 28 27, Qm 29 7, Qm 30 7, Q 31 (.bin .add (.t 30) (kI 1)), Q 32 (.call 442 [.t 28, .t 29, .t 31] [0] [(0, 13200)]), Qf 33 2 6, Qs 1 33 32] [1,2,4,6] [2,4,6,10902,10903,13200,13700])
  (.seq (.reg [Qf 34 3 2, Ql 35 34, Qm 36 1, Q 37 (.call 163 [.t 35, .t 36] [] [(0, 13700)]), Qf 38 3 6, Qs 1 38 37] [4,6] [4,6,10902,10903,13200,13700])
  (.seq (.shut [10902,10903,13200,13700] (.reg [QL 39 4 6, Qs 4 4 39, Qb 5 true] [4,5] [4,10902,10903,13200,13700]))
  (.ret)))))))
def impl_DropBox.m : Fn := { np := 2, body := impl_DropBox.b, res := [.cell 4 true 4, .tmp 5] }
def impl_DropBox.k (M : Nat → Option Body) : Prop := M 412 = some (.code impl_DropBox.m) ∧ impl_BoxAt.k M ∧ impl_StoreOk.k M ∧ impl_added.k M ∧ impl_copyStore.k M ∧ slices_Delete_impl_Box_impl_Box.k M
end Mx

namespace Mx
open Go
def spec_DrawStore.b : C := .seq (.reg [Q 2 (.alloc [.int .i64 0, .int .i64 0, .nils 7, .nils 1])] [0,2] [2])
  (.seq (.reg [Qm 3 0, Q 4 (.call 124 [.t 3] [] [(0, 10400)]), Q 5 (.call 188 [.t 4] [0] []), Qs 4 2 5] [2] [2])
  (.ret))
def spec_DrawStore.m : Fn := { np := 1, body := spec_DrawStore.b, res := [.cell 2 true 4] }
def spec_DrawStore.k (M : Nat → Option Body) : Prop := M 408 = some (.code spec_DrawStore.m) ∧ spec_l01New.k M ∧ spec_l07Store.k M
def laws_FnStores.l0 : C := .seq (.seq (.reg [Qm 114 15, Qf 115 2 3, Ql 116 115, Q 117 (.len (.t 116)), Q 118 (.bin .lss (.t 114) (.t 117))] [3,7,8,9,10,11,13,15,118] [3,9,11,13])
  (.cond (.t 118) (.skip) (.exit 0)))
  (.seq (.block 1 (.seq (.reg [Qf 121 2 3, Ql 122 121, Qm 123 15, Qa 124 7 122 123, Qf 125 0 124, Ql 126 125, Qm 16 126] [3,7,8,9,10,11,13,15,16] [3,9,11,13])
  (.seq (.reg [QL 127 4 13, Qm 128 16, Q 129 (.call 95 [.t 127, .t 128] [] []), Qm 17 129] [3,7,8,9,10,11,13,15,17] [3,9,11,13])
  (.seq (.regd [Qm 130 15, Qm 131 7, Q 132 (.bin .neq (.t 130) (.t 131)), Qm 133 132, Qg 134 (.faddr 2 (.t 9)) 133 true, Qg 135 (.load false 1 (.t 134)) 133 true, Qg 136 (.mv (.t 15)) 133 true,
    Qg 137 (.iaddr 7 (.t 135) (.t 136)) 133 true, Qg 138 (.load true 7 (.t 137)) 133 true, Qg 139 (.faddr 2 (.t 3)) 133 true, Qg 140 (.load false 1 (.t 139)) 133 true,
    Qg 141 (.mv (.t 15)) 133 true, Qg 142 (.iaddr 7 (.t 140) (.t 141)) 133 true, Qg 143 (.load true 7 (.t 142)) 133 true, Qg 144 (.call 71 [.t 138, .t 143] [] []) 133 true,
    Qg 145 (.not (.t 144)) 133 true, Qg 146 (.mv (.t 145)) 133 true, Qg 147 (.faddr 2 (.t 11)) 146 false, Qg 148 (.load false 1 (.t 147)) 146 false, Qg 149 (.mv (.t 15)) 146 false,
    Qg 150 (.iaddr 7 (.t 148) (.t 149)) 146 false, Qg 151 (.load true 7 (.t 150)) 146 false, Qg 152 (.faddr 2 (.t 3)) 146 false, Qg 153 (.load false 1 (.t 152)) 146 false,
    Qg 154 (.mv (.t 15)) 146 false, Qg 155 (.iaddr 7 (.t 153) (.t 154)) 146 false, Qg 156 (.load true 7 (.t 155)) 146 false, Qg 157 (.call 71 [.t 151, .t 156] [] []) 146 false,
    Qg 158 (.not (.t 157)) 146 false, Qg 159 (.pick (.t 146) (kB true) (.t 158)) 133 true, Qg 160 (.mv (.t 159)) 133 true, Qg 161 (.mv (.t 17)) 160 false,
    Qg 162 (.bin .lss (.t 161) (kI 0)) 160 false, Qg 163 (.pick (.t 160) (kB true) (.t 162)) 133 true, Q 164 (.pick (.t 133) (.t 163) (kB false)), Qm 165 164,
    Qg 166 (.mv (.t 15)) 165 false, Qg 167 (.mv (.t 7)) 165 false, Qg 168 (.bin .eql (.t 166) (.t 167)) 165 false, Qg 169 (.mv (.t 168)) 165 false, Qg 170 (.mv (.t 17)) 169 true,
    Qg 171 (.bin .geq (.t 170) (kI 0)) 169 true, Qg 172 (.pick (.t 169) (.t 171) (kB false)) 165 false, Q 173 (.pick (.t 165) (kB true) (.t 172))] [[], [], [0,1], [0,1,2], lr 4, lr 5, lr 4, lr 7, lr 8, lr 4, lr 4 ++ [9], lr 4, lr 4 ++ [9,10,11], lr 4 ++ [9,10,11,12], lr 14, lr 15, lr 16, lr 17, lr 18, lr 17, lr 20, lr 21, lr 17, lr 17 ++ [22], lr 17, lr 17 ++ [22,23,24], lr 17 ++ [22,23,24,25], lr 27, lr 28, lr 29, lr 30, lr 31, lr 32, lr 33, lr 34, lr 35, lr 36, lr 36, lr 38, lr 39, lr 40, lr 41, lr 42, lr 43] [3,7,8,9,10,11,13,15,173] [3,9,11,13])
  (.cond (.t 173) (.seq (.reg [Qb 2 false] [2] [])
  (.ret)) (.skip))))))
  (.reg [Qm 119 15, Q 120 (.bin .add (.t 119) (kI 1)), Qm 15 120] [3,7,8,9,10,11,13,15] [3,9,11,13]))
def laws_FnStores.b : C := .seq (.reg [Qb 2 false] [0] [])
  (.seq (.seq (.reg [Qm 20 0, Q 21 (.call 36 [.t 20] [] [])] [0,21] [])
  (.cond (.t 21) (.seq (.reg [Qb 2 true] [2] [])
  (.ret)) (.skip)))
  (.seq (.reg [Qm 22 0, Q 23 (.call 408 [.t 22] [] []), Q 3 (.alloc [.int .i64 0, .int .i64 0, .nils 7, .nils 1]), Qs 4 3 23] [0,3] [3])
  (.seq (.reg [Qm 24 0, Q 25 (.call 40 [.t 24] [] []), Qm 4 25] [3,4] [3])
  (.seq (.seq (.reg [Qf 26 2 3, Ql 27 26, Q 28 (.len (.t 27)), Q 29 (.bin .eql (.t 28) (kI 0))] [3,4,29] [3])
  (.cond (.t 29) (.seq (.reg [QL 31 4 3, Q 32 (.call 409 [.t 31, kI 5, .k (.str ⟨#[105,110,98,111,120]⟩)] [] []), Qm 30 32, Qx 33 0 30, Qx 34 1 30, Q 5 (.alloc [.int .i64 0, .int .i64 0, .nils 7, .nils 1]),
    Qs 4 5 33, Qm 6 34] [3,5,6] [3,5])
  (.seq (.reg [Qm 35 6, Qm 36 35, Qg 37 (.faddr 2 (.t 5)) 36 true, Qg 38 (.load false 1 (.t 37)) 36 true, Qg 39 (.len (.t 38)) 36 true, Qg 40 (.bin .eql (.t 39) (kI 1)) 36 true,
    Q 41 (.pick (.t 36) (.t 40) (kB false)), Qm 42 41, Qg 43 (.faddr 1 (.t 5)) 42 true, Qg 44 (.load false 1 (.t 43)) 42 true, Qg 45 (.faddr 1 (.t 3)) 42 true,
    Qg 46 (.load false 1 (.t 45)) 42 true, Qg 47 (.bin .add (.t 46) (kI 1)) 42 true, Qg 48 (.bin .eql (.t 44) (.t 47)) 42 true, Q 49 (.pick (.t 42) (.t 48) (kB false)), Qm 50 49,
    Qg 51 (.load true 4 (.t 5)) 50 true, Qg 52 (.call 150 [.t 51] [] []) 50 true, Q 53 (.pick (.t 50) (.t 52) (kB false)), Qm 2 53] [2] [])
  (.ret))) (.skip)))
  (.seq (.regd [Qm 54 4, Q 55 (.iaddr 1 (.t 54) (kI 0)), Ql 56 55, Qf 57 2 3, Ql 58 57, Q 59 (.len (.t 58)), Q 60 (.bin .rem (.t 56) (.t 59)), Qm 7 60] [[], [0], [0,1], [], [3], [3,4], lr 6, lr 7] [3,4,7] [3])
  (.seq (.reg [Qf 61 2 3, Ql 62 61, Qm 63 7, Qa 64 7 62 63, Qf 65 0 64, Ql 66 65, Qm 8 66] [3,4,7,8] [3])
  (.seq (.regd [QL 68 4 3, Qm 69 8, Qm 70 4, Q 71 (.iaddr 1 (.t 70) (kI 1)), Ql 72 71, Q 73 (.bin .rem (.t 72) (kI 8)),
    Q 74 (.call 410 [.t 68, .t 69, kI 9000, .t 73, .k (.str ⟨#[110,101,119]⟩)] [] []), Qm 67 74, Qx 75 0 67, Qx 76 1 67, Q 9 (.alloc [.int .i64 0, .int .i64 0, .nils 7, .nils 1]),
    Qs 4 9 75, Qm 10 76] [[], [], [], [2], [2,3], [2,3,4], lr 6, lr 7, lr 8, lr 8, [], lr 9 ++ [10], lr 12] [3,7,8,9,10] [3,9])
  (.seq (.reg [QL 78 4 3, Qm 79 8, Q 80 (.call 411 [.t 78, .t 79, .k (.str ⟨#[102,114,101,115,104]⟩)] [] []), Qm 77 80, Qx 81 0 77, Qx 82 1 77,
    Q 11 (.alloc [.int .i64 0, .int .i64 0, .nils 7, .nils 1]), Qs 4 11 81, Qm 12 82] [3,7,8,9,10,11,12] [3,9,11])
  (.seq (.reg [QL 84 4 3, Qm 85 8, Q 86 (.call 412 [.t 84, .t 85] [] []), Qm 83 86, Qx 87 0 83, Qx 88 1 83, Q 13 (.alloc [.int .i64 0, .int .i64 0, .nils 7, .nils 1]), Qs 4 13 87, Qm 14 88] [3,7,8,9,10,11,12,13,14] [3,9,11,13])
  (.seq (.seq (.reg [Qm 89 10, Qm 90 89, Qg 91 (.faddr 1 (.t 9)) 90 true, Qg 92 (.load false 1 (.t 91)) 90 true, Qg 93 (.faddr 1 (.t 3)) 90 true, Qg 94 (.load false 1 (.t 93)) 90 true,
    Qg 95 (.bin .add (.t 94) (kI 1)) 90 true, Qg 96 (.bin .neq (.t 92) (.t 95)) 90 true, Q 97 (.pick (.t 90) (.t 96) (kB false)), Qm 98 97, Qg 99 (.mv (.t 12)) 98 false,
    Qg 100 (.not (.t 99)) 98 false, Q 101 (.pick (.t 98) (kB true) (.t 100)), Qm 102 101, Qg 103 (.mv (.t 14)) 102 false, Qg 104 (.not (.t 103)) 102 false,
    Q 105 (.pick (.t 102) (kB true) (.t 104)), Qm 106 105, Qg 107 (.faddr 1 (.t 11)) 106 false, Qg 108 (.load false 1 (.t 107)) 106 false, Qg 109 (.faddr 1 (.t 3)) 106 false,
    Qg 110 (.load false 1 (.t 109)) 106 false, Qg 111 (.bin .add (.t 110) (kI 1)) 106 false, Qg 112 (.bin .neq (.t 108) (.t 111)) 106 false, Q 113 (.pick (.t 106) (kB true) (.t 112))] [3,7,8,9,10,11,13,113] [3,9,11,13])
  (.cond (.t 113) (.seq (.reg [Qb 2 false] [2] [])
  (.ret)) (.skip)))
  (.seq (.seq (.reg [Qi 15 0] [3,7,8,9,10,11,13,15] [3,9,11,13])
  (.block 0 (.loop laws_FnStores.l0)))
  (.seq (.reg [QL 175 4 13, Qm 176 8, Q 177 (.call 409 [.t 175, .t 176, .k (.str ⟨#[111,116,104,101,114]⟩)] [] []), Qm 174 177, Qx 178 0 174, Qx 179 1 174,
    Q 18 (.alloc [.int .i64 0, .int .i64 0, .nils 7, .nils 1]), Qs 4 18 178, Qm 19 179] [3,7,8,9,10,11,13,19] [3,9,11,13])
  (.seq (.reg [QL 180 4 9, Q 181 (.call 150 [.t 180] [] []), Qm 182 181, Qg 183 (.load true 4 (.t 11)) 182 true, Qg 184 (.call 150 [.t 183] [] []) 182 true,
    Q 185 (.pick (.t 182) (.t 184) (kB false)), Qm 186 185, Qg 187 (.load true 4 (.t 13)) 186 true, Qg 188 (.call 150 [.t 187] [] []) 186 true,
    Q 189 (.pick (.t 186) (.t 188) (kB false)), Qm 190 189, Qg 191 (.mv (.t 19)) 190 true, Qg 192 (.not (.t 191)) 190 true, Q 193 (.pick (.t 190) (.t 192) (kB false)), Qm 194 193,
    Qg 195 (.load true 4 (.t 11)) 194 true, Qg 196 (.call 228 [.t 195, .k (.str ⟨#[102,114,101,115,104]⟩)] [] []) 194 true, Qg 197 (.mv (.t 7)) 194 true,
    Qg 198 (.bin .eql (.t 196) (.t 197)) 194 true, Q 199 (.pick (.t 194) (.t 198) (kB false)), Qm 200 199, Qg 201 (.load true 4 (.t 13)) 200 true, Qg 202 (.mv (.t 8)) 200 true,
    Qg 203 (.call 413 [.t 201, .t 202] [] []) 200 true, Q 204 (.pick (.t 200) (.t 203) (kB false)), Qm 205 204, Qg 206 (.mv (.t 10)) 205 true, Qg 207 (.not (.t 206)) 205 true,
    Qg 208 (.mv (.t 207)) 205 true, Qg 209 (.load true 4 (.t 9)) 208 false, Qg 210 (.call 413 [.t 209, kI 9000] [] []) 208 false, Qg 211 (.mv (.t 210)) 208 false,
    Qg 212 (.load true 4 (.t 3)) 211 true, Qg 213 (.call 413 [.t 212, kI 9000] [] []) 211 true, Qg 214 (.not (.t 213)) 211 true, Qg 215 (.pick (.t 211) (.t 214) (kB false)) 208 false,
    Qg 216 (.pick (.t 208) (kB true) (.t 215)) 205 true, Q 217 (.pick (.t 205) (.t 216) (kB false)), Qm 2 217] [2] [])
  (.ret))))))))))))))
def laws_FnStores.m : Fn := { np := 1, body := laws_FnStores.b, res := [.tmp 2] }
def laws_FnStores.k (M : Nat → Option Body) : Prop := M 394 = some (.code laws_FnStores.m) ∧ laws_big.k M ∧ spec_DrawPlaces.k M ∧ laws_sameBox.k M ∧ impl_BoxAt.k M ∧ impl_StoreOk.k M ∧ impl_BoxNamed.k M ∧ spec_DrawStore.k M ∧ impl_MakeBox.k M ∧ impl_PutMail.k M ∧ impl_RenameBox.k M ∧ impl_DropBox.k M ∧ impl_Knows.k M
end Mx

namespace Mx
open Go
def gput (l : List Int) (x : Int) : List Int := l.filter (fun y => decide (y < x)) ++ [x] ++ l.filter (fun y => decide (x < y))
def gadd (l : List Int) (x : Int) : List Int := if x ∈ l then l else gput l x
def joinGone (a b : List Int) : List Int := (a ++ b).foldl gadd []
abbrev Asc (l : List Int) : Prop := l.Pairwise (· < ·)
theorem asc_ext : ∀ {a b : List Int}, Asc a → Asc b → (∀ x, x ∈ a ↔ x ∈ b) → a = b
  | [], [], _, _, _ => rfl
  | [], y :: b, _, _, h => absurd ((h y).2 (List.mem_cons_self ..)) (by simp)
  | x :: a, [], _, _, h => absurd ((h x).1 (List.mem_cons_self ..)) (by simp)
  | x :: a, y :: b, ha, hb, h => by
    obtain ⟨ha1, ha2⟩ := List.pairwise_cons.1 ha
    obtain ⟨hb1, hb2⟩ := List.pairwise_cons.1 hb
    have e : x = y := by
      rcases List.mem_cons.1 ((h x).1 (List.mem_cons_self ..)) with q | q
      · exact q
      · rcases List.mem_cons.1 ((h y).2 (List.mem_cons_self ..)) with q' | q'
        · exact q'.symm
        · have := ha1 y q'; have := hb1 x q; omega
    subst e
    congr 1
    refine asc_ext ha2 hb2 fun z => ⟨fun hz => ?_, fun hz => ?_⟩
    · rcases List.mem_cons.1 ((h z).1 (List.mem_cons_of_mem _ hz)) with q | q
      · have := ha1 z hz; omega
      · exact q
    · rcases List.mem_cons.1 ((h z).2 (List.mem_cons_of_mem _ hz)) with q | q
      · have := hb1 z hz; omega
      · exact q
theorem gput_mem {l : List Int} {x z : Int} : z ∈ gput l x ↔ z = x ∨ z ∈ l := by
  simp only [gput, List.mem_append, List.mem_filter, decide_eq_true_eq, List.mem_singleton]
  constructor
  · rintro ((⟨h, _⟩ | h) | ⟨h, _⟩)
    · exact .inr h
    · exact .inl h
    · exact .inr h
  · rintro (h | h)
    · exact .inl (.inr h)
    · by_cases c : z < x
      · exact .inl (.inl ⟨h, c⟩)
      · by_cases c2 : z = x
        · exact .inl (.inr c2)
        · exact .inr ⟨h, by omega⟩
theorem gput_asc {l : List Int} {x : Int} (h : Asc l) : Asc (gput l x) := by
  simp only [gput, Asc, List.pairwise_append, List.pairwise_singleton, List.mem_filter, decide_eq_true_eq, List.mem_singleton, List.mem_append]
  refine ⟨⟨h.filter _, trivial, ?_⟩, h.filter _, ?_⟩
  · rintro a ⟨_, ha⟩ b rfl; exact ha
  · rintro a (⟨_, ha⟩ | rfl) b ⟨_, hb⟩ <;> omega
theorem gadd_mem {l : List Int} {x z : Int} : z ∈ gadd l x ↔ z = x ∨ z ∈ l := by
  unfold gadd; split
  · rename_i h
    constructor
    · exact .inr
    · rintro (rfl | q)
      · exact h
      · exact q
  · exact gput_mem
theorem gadd_asc {l : List Int} {x : Int} (h : Asc l) : Asc (gadd l x) := by
  unfold gadd; split
  · exact h
  · exact gput_asc h
theorem gfold_mem : ∀ (l acc : List Int) (z : Int), z ∈ l.foldl gadd acc ↔ z ∈ l ∨ z ∈ acc
  | [], acc, z => by simp
  | x :: l, acc, z => by
    simp only [List.foldl_cons, gfold_mem l, gadd_mem, List.mem_cons]
    constructor
    · rintro (h | h | h)
      · exact .inl (.inr h)
      · exact .inl (.inl h)
      · exact .inr h
    · rintro ((h | h) | h)
      · exact .inr (.inl h)
      · exact .inl h
      · exact .inr (.inr h)
theorem gfold_asc : ∀ (l acc : List Int), Asc acc → Asc (l.foldl gadd acc)
  | [], acc, h => h
  | x :: l, acc, h => gfold_asc l _ (gadd_asc h)
theorem joinGone_asc (a b : List Int) : Asc (joinGone a b) := gfold_asc _ _ List.Pairwise.nil
theorem joinGone_mem (a b : List Int) (z : Int) : z ∈ joinGone a b ↔ z ∈ a ∨ z ∈ b := by unfold joinGone; rw [gfold_mem]; simp
theorem gadd_len (l : List Int) (x : Int) : (gadd l x).length ≤ l.length + 1 := by
  unfold gadd; split
  · omega
  · simp only [gput, List.length_append, List.length_singleton]
    have : ∀ l : List Int, (l.filter fun y => decide (y < x)).length + (l.filter fun y => decide (x < y)).length ≤ l.length := by
      intro l
      induction l with
      | nil => simp
      | cons y l ih =>
        simp only [List.filter_cons]
        by_cases h1 : y < x
        · have h2 : ¬ x < y := by omega
          simp [h1, h2]; omega
        · by_cases h2 : x < y
          · simp [h1, h2]; omega
          · simp [h1, h2]; omega
    have := this l
    omega
theorem gfold_len : ∀ (l acc : List Int), (l.foldl gadd acc).length ≤ l.length + acc.length
  | [], acc => by simp
  | x :: l, acc => by
    have h1 := gfold_len l (gadd acc x)
    have h2 := gadd_len acc x
    simp only [List.foldl_cons, List.length_cons]; omega
/-- runs of equal numbers become one -/
def dedup : List Int → List Int
  | [] => []
  | x :: l => x :: (go x l)
where go : Int → List Int → List Int
  | _, [] => []
  | p, x :: l => if x = p then go x l else x :: go x l
theorem dedup_go_mem : ∀ (l : List Int) (p z : Int), z ∈ dedup.go p l → z ∈ l
  | [], p, z, h => by simp [dedup.go] at h
  | x :: l, p, z, h => by
    simp only [dedup.go] at h
    split at h
    · exact List.mem_cons_of_mem _ (dedup_go_mem l x z h)
    · rcases List.mem_cons.1 h with rfl | h
      · exact List.mem_cons_self ..
      · exact List.mem_cons_of_mem _ (dedup_go_mem l x z h)
theorem mem_dedup_go : ∀ (l : List Int) (p z : Int), z ∈ l → z = p ∨ z ∈ dedup.go p l
  | [], p, z, h => by simp at h
  | x :: l, p, z, h => by
    simp only [dedup.go]
    split
    · rename_i e
      subst e
      rcases List.mem_cons.1 h with q | q
      · exact .inl q
      · exact mem_dedup_go l x z q
    · rcases List.mem_cons.1 h with q | q
      · exact .inr (by rw [q]; exact List.mem_cons_self ..)
      · rcases mem_dedup_go l x z q with q | q
        · exact .inr (by rw [q]; exact List.mem_cons_self ..)
        · exact .inr (List.mem_cons_of_mem _ q)
theorem dedup_go_asc : ∀ (l : List Int) (p : Int), l.Pairwise (· ≤ ·) → (∀ z ∈ l, p ≤ z) → Asc (dedup.go p l) ∧ ∀ z ∈ dedup.go p l, p < z
  | [], p, _, _ => by simp [dedup.go]
  | x :: l, p, h, hp => by
    obtain ⟨h1, h2⟩ := List.pairwise_cons.1 h
    have hx := hp x (List.mem_cons_self ..)
    obtain ⟨k1, k2⟩ := dedup_go_asc l x h2 h1
    simp only [dedup.go]
    split
    · rename_i e; exact ⟨k1, fun z hz => by have := k2 z hz; omega⟩
    · rename_i e
      refine ⟨List.pairwise_cons.2 ⟨k2, k1⟩, fun z hz => ?_⟩
      rcases List.mem_cons.1 hz with rfl | hz
      · omega
      · have := k2 z hz; omega
theorem dedup_asc {l : List Int} (h : l.Pairwise (· ≤ ·)) : Asc (dedup l) := by
  cases l with
  | nil => exact List.Pairwise.nil
  | cons x l =>
    obtain ⟨h1, h2⟩ := List.pairwise_cons.1 h
    obtain ⟨k1, k2⟩ := dedup_go_asc l x h2 h1
    exact List.pairwise_cons.2 ⟨k2, k1⟩
theorem dedup_mem {l : List Int} {z : Int} : z ∈ dedup l ↔ z ∈ l := by
  cases l with
  | nil => simp [dedup]
  | cons x l =>
    simp only [dedup, List.mem_cons]
    constructor
    · rintro (h | h)
      · exact .inl h
      · exact .inr (dedup_go_mem l x z h)
    · rintro (h | h)
      · exact .inl h
      · exact mem_dedup_go l x z h
/-- the kit's word for it -/
theorem compact_dedup (l : List Int) : Lib.compact l = dedup l := by
  have key : ∀ (d : Array Int) (m : Nat) (l : List Int) (p : Int), 0 < m → m + l.length = d.size → d.toList.drop m = l → d[m - 1]! = p → ((List.range' m l.length).filter (Lib.keeps d)).map (d[·]!) = dedup.go p l := by
    intro d m l
    induction l generalizing m with
    | nil => intro p _ _ _ _; rfl
    | cons x l ih =>
      intro p hm hl hd hp
      have hlt : m < d.size := by simp at hl; omega
      have hx : d[m]! = x := by
        rw [getElem!_pos d m hlt]
        have := congrArg (·[0]?) hd
        simpa [hlt] using this
      have ih' := ih (m + 1) x (by omega) (by simp at hl; omega) (by rw [← List.tail_drop, hd]; rfl) (by simpa using hx)
      simp only [List.length_cons, List.range'_succ, List.filter_cons, dedup.go]
      by_cases e : x = p
      · have hk : Lib.keeps d m = false := Lib.keeps_neg hm (by rw [hx, hp, e])
        rw [if_pos e, hk]; simpa using ih'
      · have hk : Lib.keeps d m = true := Lib.keeps_pos (by rw [hx, hp]; exact e)
        rw [if_neg e, hk]; simp only [if_true, List.map_cons, hx, ih']
  cases l with
  | nil => rfl
  | cons x l =>
    have hk : Lib.keeps (x :: l).toArray 0 = true := Lib.keeps_lt_one _ 0 (by omega)
    unfold Lib.compact Lib.compactUpTo
    rw [List.range_eq_range', List.length_cons, List.range'_succ, List.filter_cons, hk]
    simp only [if_true, List.map_cons, dedup]
    congr 1
    exact key (x :: l).toArray 1 l x (by omega) (by simp; omega) (by simp) (by simp)
theorem compact_len (l : List Int) : (Lib.compact l).length ≤ l.length := by
  unfold Lib.compact Lib.compactUpTo
  rw [List.length_map]
  refine Nat.le_trans (List.length_filter_le _ _) ?_
  simp
theorem joinGone_sort (a b : List Int) : Lib.compact (sortI (a ++ b)) = joinGone a b := by
  rw [compact_dedup]
  have hs : (sortI (a ++ b)).Pairwise (· ≤ ·) := by
    have := List.pairwise_mergeSort (le := fun x y : Int => decide (x ≤ y)) (fun a b c h1 h2 => by simp only [decide_eq_true_eq] at *; omega) (fun a b => by simp only [Bool.or_eq_true, decide_eq_true_eq]; omega) (a ++ b)
    exact this.imp fun h => by simpa using h
  refine asc_ext (dedup_asc hs) (joinGone_asc a b) fun z => ?_
  rw [dedup_mem, joinGone_mem]
  simp [sortI]
end Mx

namespace Mx
open Go
variable {M : Nat → Option Body}
theorem impl_copyInts.says (h : impl_copyInts.k M) (l : List Int) (hx : l.length ≤ 1048576) : run M 134 [.c (ints l)] [] = some (.c (.sl true 1 (irow l)), []) := by
  have h1 : l.length ≤ 4294967296 := by omega
  refine run_code (b := impl_copyInts.m) h ⟨0, ?_⟩
  simp [exB, impl_copyInts.m, impl_copyInts.b, List.range_succ, List.take_of_length_le, h1]
end Mx

namespace Mx
open Go
theorem andI_eq (k : IntKind) (x y : Int) : andI k x y = k.wrap (((x % ((2 ^ k.bits : Nat) : Int)).toNat &&& (y % ((2 ^ k.bits : Nat) : Int)).toNat : Nat) : Int) := by
  unfold andI; rw [BitVec.toNat_and, BitVec.toNat_ofInt, BitVec.toNat_ofInt]
theorem brow_nil : brow [] = [] := rfl
attribute [simp] brow_nil
end Mx

namespace Mx
open Go
variable {M : Nat → Option Body}
theorem impl_within.says (h : impl_within.k M) (n a b : Int) : run M 101 [.c (I n), .c (I a), .c (I b)] [] = some (.c (.bool (decide (a ≤ n) && decide (n ≤ b))), []) := by
  refine run_code (b := impl_within.m) h ⟨0, ?_⟩
  by_cases h : a ≤ n
  · have h' : n ≥ a := h
    simp [exB, impl_within.m, impl_within.b, List.range_succ, h]
  · have h' : ¬ n ≥ a := h
    simp [exB, impl_within.m, impl_within.b, List.range_succ, h]
theorem spec_l01In.says (h : spec_l01In.k M) (n a b : Int) : run M 98 [.c (I n), .c (I a), .c (I b)] [] = some (.c (.bool (decide (a ≤ n) && decide (n ≤ b))), []) := by
  refine run_code (b := spec_l01In.m) h ⟨0, ?_⟩
  by_cases h : a ≤ n
  · have h' : n ≥ a := h
    simp [exB, spec_l01In.m, spec_l01In.b, List.range_succ, h]
  · have h' : ¬ n ≥ a := h
    simp [exB, spec_l01In.m, spec_l01In.b, List.range_succ, h]
end Mx

namespace Mx
open Go
variable {M : Nat → Option Body}
structure Reg where
  val : Int
  time : Int
  who : Int
structure Mail where
  gid : Int
  uid : Int
  flags : List Reg
  text : List UInt8
structure Box where
  gid : Int
  name : List UInt8
  time : Int
  who : Int
  next : Int
  mails : List Mail
  gone : List Int
abbrev encReg (r : Reg) : List T := [I r.val, I r.time, I r.who]
abbrev regs (l : List Reg) : T := .sl false 3 (l.map encReg)
abbrev encMail (m : Mail) : List T := [I m.gid, I m.uid, regs m.flags, S m.text]
abbrev mails (l : List Mail) : T := .sl false 4 (l.map encMail)
abbrev encBox (b : Box) : List T := [I b.gid, S b.name, I b.time, I b.who, I b.next, mails b.mails, ints b.gone]
/-- as their own -/
abbrev encMailO (m : Mail) : List T := [I m.gid, I m.uid, .sl true 3 (m.flags.map encReg), S m.text]
abbrev encBoxO (b : Box) : List T := [I b.gid, S b.name, I b.time, I b.who, I b.next, .sl true 4 (b.mails.map encMail), .sl true 1 (irow b.gone)]
theorem has_int {k : IntKind} {u : T} (h : Has (.int k) u) : ∃ n, u = .int k n := by cases h; exact ⟨_, rfl⟩
end Mx

namespace Mx
open Go
variable {M : Nat → Option Body}
/-- the first mail of this number, from a place on -/
def atO (l : List Mail) (g : Int) : Nat → Nat → Option Nat
  | 0, _ => none
  | d + 1, i => if h : i < l.length then (if l[i].gid = g then some i else atO l g d (i + 1)) else none
def mailO (l : List Mail) (g : Int) : Option Nat := atO l g l.length 0
def intO : Option Nat → Int
  | some i => i
  | none => -1
theorem atO_lt (l : List Mail) (g : Int) : ∀ d i k, atO l g d i = some k → k < l.length
  | 0, i, k, h => by simp [atO] at h
  | d + 1, i, k, h => by
    rw [atO] at h
    by_cases hl : i < l.length
    · rw [dif_pos hl] at h
      split at h
      · cases h; exact hl
      · exact atO_lt l g d (i + 1) k h
    · rw [dif_neg hl] at h; cases h
def atFin (q : Option Nat) (m : St) : Out × St := match q with
  | some i => (.ret, { t := [(4, .c (I i))], o := [], n := m.n })
  | none => (.exit 0, m)
theorem atFin_ne (q : Option Nat) (m : St) : (atFin q m).1 ≠ .normal := by cases q <;> simp [atFin]
/-- the loop of either -/
theorem at_loop {f : St → Option (Out × St)} {β : Type} (l : List Mail) (g : Int) (S : Nat → β → St)
    (h1 : ∀ i (h : i < l.length) x, l[i].gid = g → ∃ m, f (S i x) = some (atFin (some i) m)) (h2 : ∀ i (h : i < l.length) x, ¬ l[i].gid = g → ∃ y, f (S i x) = some (.normal, S (i + 1) y))
    (h3 : ∀ x, ∃ m, f (S l.length x) = some (atFin none m)) : ∃ g' : β → St, ∀ x, loopN f (l.length + 1) (S 0 x) = some (atFin (mailO l g) (g' x)) := by
  refine loop_all (f := f) S (fun i => i ≤ l.length) (fun i => l.length - i) (fun i => atO l g (l.length - i) i) atFin ?_ (l.length + 1) 0 (Nat.zero_le _) (by omega)
  intro i x hi
  by_cases hlt : i < l.length
  · have hd : l.length - i = (l.length - (i + 1)) + 1 := by omega
    have hg : atO l g (l.length - i) i = if l[i].gid = g then some i else atO l g (l.length - (i + 1)) (i + 1) := by rw [hd, atO, dif_pos hlt]
    simp only [hg]
    by_cases c : l[i].gid = g
    · right
      obtain ⟨m, hm⟩ := h1 i hlt x c
      rw [if_pos c]
      exact ⟨m, hm, atFin_ne _ _⟩
    · left
      obtain ⟨y, hy⟩ := h2 i hlt x c
      rw [if_neg c]
      exact ⟨i + 1, y, hy, hlt, by omega, rfl⟩
  · have : i = l.length := by omega
    subst this
    right
    obtain ⟨m, hm⟩ := h3 x
    simp only [Nat.sub_self, atO]
    exact ⟨m, hm, atFin_ne _ _⟩
def spAtS (b : Box) (g : Int) (i : Nat) (x : Nat × Nat) : St := { t := [(1, .c (I g)), (2, .c (.ptr 2 x.1 0 0)), (5, .c (I i))], o := [(2, ⟨x.1, 7, true, true, [encBox b]⟩)], n := x.2 }
theorem spec_MailAt.says (h : spec_MailAt.k M) (b : Box) (g : Int) (hb : b.mails.length ≤ 1048576) : run M 91 [.a (encBox b), .c (I g)] [] = some (.c (I (intO (mailO b.mails g))), []) := by
  refine run_code (b := spec_MailAt.m) h ⟨b.mails.length + 1, ?_⟩
  obtain ⟨g', hr⟩ := at_loop (f := exC (run M) (b.mails.length + 1) spec_MailAt.l0) b.mails g (spAtS b g)
    (fun i hi x c => by
      obtain ⟨v, x⟩ := x
      simp [spAtS, spec_MailAt.l0, hi, c, encMail, atFin]
      exact ⟨⟨[], [], _⟩, rfl⟩)
    (fun i hi x c => by
      obtain ⟨v, x⟩ := x
      have e5 := wrap1 (i := i) (by omega)
      simp only [Prod.exists]
      simp [spAtS, spec_MailAt.l0, hi, c, encMail, e5])
    (fun x => by
      obtain ⟨v, x⟩ := x
      simp [spAtS, spec_MailAt.l0, atFin])
  cases hm : mailO b.mails g with
  | none =>
    simp [spAtS, hm, atFin] at hr
    simp [exB, spec_MailAt.m, spec_MailAt.b, List.range_succ, hr, intO]
  | some k =>
    simp [spAtS, hm, atFin] at hr
    simp [exB, spec_MailAt.m, spec_MailAt.b, List.range_succ, hr, intO]
theorem impl_MailAt_1.says (h : impl_MailAt_1.k M) (m : Mail) (g : Int) : run M 160 [.a (encMail m), .c (.vp [I g] 0)] [] = some (.c (.bool (decide (m.gid = g))), []) := by
  refine run_code (b := impl_MailAt_1.m) h ⟨0, ?_⟩
  simp [exB, impl_MailAt_1.m, impl_MailAt_1.b, List.range_succ]
def ixS (l : List Mail) (g : Int) (i : Nat) (x : Nat) : St := { t := [(0, .c (mails l)), (1, .c (.fn 160 [.vp [I g] 0])), (7, .c (I l.length)), (8, .c (I i))], o := [], n := x }
theorem slices_IndexFunc_impl_Mail_impl_Mail.says (h : slices_IndexFunc_impl_Mail_impl_Mail.k M) (h2 : impl_MailAt_1.k M) (l : List Mail) (g : Int) (hl : l.length ≤ 1048576) :
    run M 161 [.c (mails l), .c (.fn 160 [.vp [I g] 0])] [] = some (.c (I (intO (mailO l g))), []) := by
  refine run_code (b := slices_IndexFunc_impl_Mail_impl_Mail.m) h ⟨l.length + 1, ?_⟩
  obtain ⟨g', hr⟩ := at_loop (f := exC (run M) (l.length + 1) slices_IndexFunc_impl_Mail_impl_Mail.l0) l g (ixS l g)
    (fun i hi x c => by
      have hm := impl_MailAt_1.says h2 l[i] g
      rw [decide_eq_true c] at hm
      simp [ixS, slices_IndexFunc_impl_Mail_impl_Mail.l0, hi, hm, encMail, atFin]
      exact ⟨⟨[], [], _⟩, rfl⟩)
    (fun i hi x c => by
      have hm := impl_MailAt_1.says h2 l[i] g
      rw [decide_eq_false c] at hm
      have e5 := wrap1 (i := i) (by omega)
      simp [ixS, slices_IndexFunc_impl_Mail_impl_Mail.l0, hi, hm, encMail, e5])
    (fun x => by simp [ixS, slices_IndexFunc_impl_Mail_impl_Mail.l0, atFin])
  cases hm : mailO l g with
  | none =>
    simp [ixS, hm, atFin] at hr
    simp [exB, slices_IndexFunc_impl_Mail_impl_Mail.m, slices_IndexFunc_impl_Mail_impl_Mail.b, List.range_succ, hr, intO]
  | some k =>
    simp [ixS, hm, atFin] at hr
    simp [exB, slices_IndexFunc_impl_Mail_impl_Mail.m, slices_IndexFunc_impl_Mail_impl_Mail.b, List.range_succ, hr, intO]
theorem impl_MailAt.says (h : impl_MailAt.k M) (b : Box) (g : Int) (hb : b.mails.length ≤ 1048576) : run M 72 [.a (encBox b), .c (I g)] [] = some (.c (I (intO (mailO b.mails g))), []) := by
  have h1 := slices_IndexFunc_impl_Mail_impl_Mail.says h.2.2 h.2.1 b.mails g hb
  refine run_code (b := impl_MailAt.m) h.1 ⟨0, ?_⟩
  simp [exB, impl_MailAt.m, impl_MailAt.b, List.range_succ, h1]
def holds (b : Box) (g : Int) : Bool := decide (0 ≤ intO (mailO b.mails g))
end Mx

namespace Mx
open Go
/-- the first place from i on, of the d places there, of which p says yes -/
def firstF (p : Nat → Bool) : Nat → Nat → Option Nat
  | 0, _ => none
  | d + 1, i => if p i = true then some i else firstF p d (i + 1)
def firstN (p : Nat → Bool) (n : Nat) : Option Nat := firstF p n 0
theorem firstF_none (p : Nat → Bool) : ∀ d i, firstF p d i = none → ∀ j, i ≤ j → j < i + d → p j = false
  | 0, i, _, j, h1, h2 => by omega
  | d + 1, i, h, j, h1, h2 => by
    rw [firstF] at h
    split at h
    · cases h
    · by_cases e : j = i
      · subst e; simpa using ‹¬p j = true›
      · exact firstF_none p d (i + 1) h j (by omega) (by omega)
theorem firstF_some (p : Nat → Bool) : ∀ d i k, firstF p d i = some k → i ≤ k ∧ k < i + d ∧ p k = true ∧ ∀ j, i ≤ j → j < k → p j = false
  | d + 1, i, k, h => by
    rw [firstF] at h
    split at h
    · cases h
      exact ⟨by omega, by omega, ‹_›, fun j h1 h2 => by omega⟩
    · obtain ⟨h1, h2, h3, h4⟩ := firstF_some p d (i + 1) k h
      refine ⟨by omega, by omega, h3, fun j h5 h6 => ?_⟩
      by_cases e : j = i
      · subst e; simpa using ‹¬p j = true›
      · exact h4 j (by omega) h6
theorem firstN_none {p : Nat → Bool} {n : Nat} (h : firstN p n = none) : ∀ j, j < n → p j = false := fun j hj => firstF_none p n 0 h j (by omega) (by omega)
theorem firstN_some {p : Nat → Bool} {n k : Nat} (h : firstN p n = some k) : k < n ∧ p k = true ∧ ∀ j, j < k → p j = false := by
  obtain ⟨_, h2, h3, h4⟩ := firstF_some p n 0 k h
  exact ⟨by omega, h3, fun j hj => h4 j (by omega) hj⟩
theorem firstN_isNone {p : Nat → Bool} {n : Nat} : firstN p n = none ↔ ∀ j, j < n → p j = false := by
  refine ⟨firstN_none, fun h => ?_⟩
  cases q : firstN p n with
  | none => rfl
  | some k =>
    obtain ⟨h1, h2, _⟩ := firstN_some q
    rw [h k h1] at h2; cases h2
theorem first_loop {γ β : Type} (n : Nat) (p : Nat → Bool) {f : St → Option (Out × St)} (S : Nat → β → St) (fin : Option Nat → γ → Out × St) (hfin : ∀ q m, (fin q m).1 ≠ .normal)
    (h1 : ∀ i, i < n → ∀ x, p i = false → ∃ y, f (S i x) = some (.normal, S (i + 1) y)) (h2 : ∀ i, i < n → ∀ x, p i = true → ∃ m, f (S i x) = some (fin (some i) m))
    (h3 : ∀ x, ∃ m, f (S n x) = some (fin none m)) : ∃ g : β → γ, ∀ x, loopN f (n + 1) (S 0 x) = some (fin (firstN p n) (g x)) := by
  refine loop_all (f := f) S (fun i => i ≤ n) (fun i => n - i) (fun i => firstF p (n - i) i) fin ?_ (n + 1) 0 (Nat.zero_le _) (by omega)
  intro i x hi
  by_cases hlt : i < n
  · have hd : n - i = (n - (i + 1)) + 1 := by omega
    have hg : firstF p (n - i) i = if p i = true then some i else firstF p (n - (i + 1)) (i + 1) := by rw [hd, firstF]
    simp only [hg]
    by_cases c : p i = true
    · right
      obtain ⟨m, hm⟩ := h2 i hlt x c
      rw [if_pos c]
      exact ⟨m, hm, hfin _ _⟩
    · left
      obtain ⟨y, hy⟩ := h1 i hlt x (by simpa using c)
      rw [if_neg c]
      exact ⟨i + 1, y, hy, hlt, by omega, rfl⟩
  · have : i = n := by omega
    subst this
    right
    obtain ⟨m, hm⟩ := h3 x
    simp only [Nat.sub_self, firstF]
    exact ⟨m, hm, hfin _ _⟩
theorem loopN_le {f : St → Option (Out × St)} {n m : Nat} {s : St} {r : Out × St} (h : loopN f n s = some r) (hm : n ≤ m) : loopN f m s = some r := loopN_mono (fun _ _ h => h) hm h
/-- a loop that answers w at the first place found, and goes on behind itself if there is none -/
def fin1 {β : Type} (r : Nat) (w : T) (e : Nat) (E : β → St) (q : Option Nat) (m : β × Nat) : Out × St := match q with
  | none => (.exit e, E m.1)
  | some _ => (.ret, { t := [(r, .c w)], o := [], n := m.2 })
theorem early_loop {β : Type} (n : Nat) (p : Nat → Bool) {f : St → Option (Out × St)} (S : Nat → β → St) (r : Nat) (w : T) (e : Nat) (E : β → St)
    (h1 : ∀ i, i < n → ∀ x, p i = false → ∃ y, f (S i x) = some (.normal, S (i + 1) y)) (h2 : ∀ i, i < n → ∀ x, p i = true → ∃ k, f (S i x) = some (.ret, { t := [(r, .c w)], o := [], n := k }))
    (h3 : ∀ x, ∃ y, f (S n x) = some (.exit e, E y)) : ∃ g : β → β × Nat, ∀ x, loopN f (n + 1) (S 0 x) = some (fin1 r w e E (firstN p n) (g x)) :=
  first_loop n p S (fin1 r w e E) (fun q m => by cases q <;> simp [fin1]) h1 (fun i hi x c => by
    obtain ⟨k, hk⟩ := h2 i hi x c
    exact ⟨(x, k), hk⟩) (fun x => by
    obtain ⟨y, hy⟩ := h3 x
    exact ⟨(y, 0), hy⟩)
/-- a loop that goes through a whole list with what it has so far -/
theorem fold_loop {α σ β γ : Type} (l : List α) (step : σ → α → σ) (Inv : Nat → σ → Prop) {f : St → Option (Out × St)} (S : Nat → σ → β → St) (e : Nat) (E : σ → γ → St)
    (hI : ∀ i (h : i < l.length) s, Inv i s → Inv (i + 1) (step s l[i]))
    (h1 : ∀ i (h : i < l.length) s x, Inv i s → ∃ y, f (S i s x) = some (.normal, S (i + 1) (step s l[i]) y))
    (h3 : ∀ s x, Inv l.length s → ∃ y, f (S l.length s x) = some (.exit e, E s y)) (s : σ) (h0 : Inv 0 s) :
    ∃ g : β → γ, ∀ x, loopN f (l.length + 1) (S 0 s x) = some (.exit e, E (l.foldl step s) (g x)) := by
  refine loop_all (f := f) (fun p : Nat × σ => S p.1 p.2) (fun p => p.1 ≤ l.length ∧ Inv p.1 p.2) (fun p => l.length - p.1) (fun p => (l.drop p.1).foldl step p.2) (fun q m => (.exit e, E q m)) ?_ (l.length + 1) (0, s) ⟨Nat.zero_le _, h0⟩ (by simp)
  rintro ⟨i, s⟩ x ⟨hi, hs⟩
  simp only at hi hs
  by_cases hlt : i < l.length
  · left
    obtain ⟨y, hy⟩ := h1 i hlt s x hs
    refine ⟨(i + 1, step s l[i]), y, hy, ⟨hlt, hI i hlt s hs⟩, by simp only; omega, ?_⟩
    simp only
    rw [List.drop_eq_getElem_cons hlt, List.foldl_cons]
  · have : i = l.length := by omega
    subst this
    right
    obtain ⟨y, hy⟩ := h3 s x hs
    exact ⟨y, by simp [hy], by simp⟩
/-- texts one behind the other -/
def texts {α : Type} (t : α → List UInt8) (l : List α) : List UInt8 := l.flatMap t
end Mx

namespace Mx
open Go
variable {M : Nat → Option Body}
def inR (a n b : Int) : Bool := decide (a ≤ n) && decide (n ≤ b)
theorem impl_within.inR (h : impl_within.k M) (n a b : Int) : run M 101 [.c (I n), .c (I a), .c (I b)] [] = some (.c (.bool (inR a n b)), []) := impl_within.says h n a b
theorem spec_l01In.inR (h : spec_l01In.k M) (n a b : Int) : run M 98 [.c (I n), .c (I a), .c (I b)] [] = some (.c (.bool (inR a n b)), []) := spec_l01In.says h n a b
def stampOk (t w : Int) : Bool := inR 0 t 100000 && inR 0 w 2
theorem impl_StampOk.says (h : impl_StampOk.k M) (t w : Int) : run M 164 [.a [I t, I w]] [] = some (.c (.bool (stampOk t w)), []) := by
  have h1 := impl_within.inR h.2 t 0 100000
  have h2 := impl_within.inR h.2 w 0 2
  refine run_code (b := impl_StampOk.m) h.1 ⟨0, ?_⟩
  cases c : inR 0 t 100000 <;> simp (maxSteps := 1000000) (disch := (first | omega | (simp; done) | (simp; omega))) [exB, impl_StampOk.m, impl_StampOk.b, List.range_succ, bs_get, List.take_of_length_le, setAt, str_add, h1, h2, c, stampOk]
theorem spec_StampOk.says (h : spec_StampOk.k M) (t w : Int) : run M 183 [.a [I t, I w]] [] = some (.c (.bool (stampOk t w)), []) := by
  have h1 := spec_l01In.inR h.2 t 0 100000
  have h2 := spec_l01In.inR h.2 w 0 2
  refine run_code (b := spec_StampOk.m) h.1 ⟨0, ?_⟩
  cases c : inR 0 t 100000 <;> simp (maxSteps := 1000000) (disch := (first | omega | (simp; done) | (simp; omega))) [exB, spec_StampOk.m, spec_StampOk.b, List.range_succ, bs_get, List.take_of_length_le, setAt, str_add, h1, h2, c, stampOk]
def regOk (r : Reg) : Bool := stampOk r.time r.who && inR 0 r.val 1000000000
theorem impl_RegOk.says (h : impl_RegOk.k M) (r : Reg) : run M 272 [.a (encReg r)] [] = some (.c (.bool (regOk r)), []) := by
  have h1 := impl_StampOk.says h.2.2 r.time r.who
  have h2 := impl_within.inR h.2.1 r.val 0 1000000000
  refine run_code (b := impl_RegOk.m) h.1 ⟨0, ?_⟩
  cases c : stampOk r.time r.who <;> simp (maxSteps := 1000000) (disch := (first | omega | (simp; done) | (simp; omega))) [exB, impl_RegOk.m, impl_RegOk.b, List.range_succ, bs_get, List.take_of_length_le, setAt, str_add, h1, h2, c, regOk]
theorem spec_RegOk.says (h : spec_RegOk.k M) (r : Reg) : run M 276 [.a (encReg r)] [] = some (.c (.bool (regOk r)), []) := by
  have h1 := spec_StampOk.says h.2.2 r.time r.who
  have h2 := spec_l01In.inR h.2.1 r.val 0 1000000000
  refine run_code (b := spec_RegOk.m) h.1 ⟨0, ?_⟩
  cases c : stampOk r.time r.who <;> simp (maxSteps := 1000000) (disch := (first | omega | (simp; done) | (simp; omega))) [exB, spec_RegOk.m, spec_RegOk.b, List.range_succ, bs_get, List.take_of_length_le, setAt, str_add, h1, h2, c, regOk]
def badFlag (l : List Reg) (i : Nat) : Bool := match l[i]? with
  | some r => !regOk r || decide (1 < r.val)
  | none => false
def flagsOk (l : List Reg) : Bool := (firstN (badFlag l) l.length).isNone && decide (l.length = 3)
theorem badFlag_at {l : List Reg} {i : Nat} (h : i < l.length) : badFlag l i = (!regOk l[i] || decide (1 < l[i].val)) := by simp [badFlag, h]
def ifS (l : List Reg) (i : Nat) (x : Nat) : St := { t := [(0, .c (regs l)), (5, .c (regs l)), (6, .c (I l.length)), (7, .c (I i))], o := [], n := x }
def ifE (l : List Reg) (x : Nat) : St := { t := [(0, .c (regs l)), (5, .c (regs l)), (6, .c (I l.length)), (7, .c (I l.length)), (8, .c (.bool false))], o := [], n := x }
theorem impl_FlagsOk.says (h : impl_FlagsOk.k M) (l : List Reg) (hl : l.length ≤ 1048576) : run M 235 [.c (regs l)] [] = some (.c (.bool (flagsOk l)), []) := by
  refine run_code (b := impl_FlagsOk.m) h.1 ⟨l.length + 1, ?_⟩
  obtain ⟨g, hr⟩ := early_loop (f := exC (run M) (l.length + 1) impl_FlagsOk.l0) l.length (badFlag l) (ifS l) 2 (.bool false) 0 (ifE l)
    (fun i hi x c => by
      have e5 := wrap1 (i := i) (by omega)
      have hm := impl_RegOk.says h.2 l[i]
      rw [badFlag_at hi] at c
      simp at c
      simp only [encReg, c.1] at hm
      have c2 : ¬ (1 : Int) < l[i].val := by omega
      simp (maxSteps := 1000000) (disch := (first | omega | (simp; done) | (simp; omega))) [impl_FlagsOk.l0, List.range_succ, bs_get, List.take_of_length_le, setAt, str_add, ifS, hi, hm, encReg, c, c2, e5])
    (fun i hi x c => by
      have hm := impl_RegOk.says h.2 l[i]
      rw [badFlag_at hi] at c
      cases c1 : regOk l[i]
      · simp only [encReg, c1] at hm
        simp (maxSteps := 1000000) (disch := (first | omega | (simp; done) | (simp; omega))) [impl_FlagsOk.l0, List.range_succ, bs_get, List.take_of_length_le, setAt, str_add, ifS, hi, hm, encReg, c1]
      · simp [c1] at c
        simp only [encReg, c1] at hm
        simp (maxSteps := 1000000) (disch := (first | omega | (simp; done) | (simp; omega))) [impl_FlagsOk.l0, List.range_succ, bs_get, List.take_of_length_le, setAt, str_add, ifS, hi, hm, encReg, c1, c])
    (fun x => by simp (maxSteps := 1000000) (disch := (first | omega | (simp; done) | (simp; omega))) [impl_FlagsOk.l0, List.range_succ, bs_get, List.take_of_length_le, setAt, str_add, ifS, ifE])
  cases q : firstN (badFlag l) l.length with
  | none =>
    simp [ifS, ifE, q, fin1] at hr
    simp (maxSteps := 1000000) (disch := (first | omega | (simp; done) | (simp; omega))) [exB, impl_FlagsOk.m, impl_FlagsOk.b, List.range_succ, bs_get, List.take_of_length_le, setAt, str_add, hr, flagsOk, q]
    omega
  | some k =>
    simp [ifS, q, fin1] at hr
    simp (maxSteps := 1000000) (disch := (first | omega | (simp; done) | (simp; omega))) [exB, impl_FlagsOk.m, impl_FlagsOk.b, List.range_succ, bs_get, List.take_of_length_le, setAt, str_add, hr, flagsOk, q]
def sfS (l : List Reg) (i : Nat) (x : Nat) : St := { t := [(0, .c (regs l)), (3, .c (I i))], o := [], n := x }
def sfE (l : List Reg) (x : Nat) : St := { t := [(0, .c (regs l)), (3, .c (I l.length)), (7, .c (.bool false))], o := [], n := x }
theorem spec_FlagsOk.says (h : spec_FlagsOk.k M) (l : List Reg) (hl : l.length ≤ 1048576) : run M 242 [.c (regs l)] [] = some (.c (.bool (flagsOk l)), []) := by
  refine run_code (b := spec_FlagsOk.m) h.1 ⟨l.length + 1, ?_⟩
  obtain ⟨g, hr⟩ := early_loop (f := exC (run M) (l.length + 1) spec_FlagsOk.l0) l.length (badFlag l) (sfS l) 2 (.bool false) 0 (sfE l)
    (fun i hi x c => by
      have e5 := wrap1 (i := i) (by omega)
      have hm := spec_RegOk.says h.2 l[i]
      rw [badFlag_at hi] at c
      simp at c
      simp only [encReg, c.1] at hm
      have c2 : ¬ (1 : Int) < l[i].val := by omega
      simp (maxSteps := 1000000) (disch := (first | omega | (simp; done) | (simp; omega))) [spec_FlagsOk.l0, List.range_succ, bs_get, List.take_of_length_le, setAt, str_add, sfS, hi, hm, encReg, c, c2, e5])
    (fun i hi x c => by
      have hm := spec_RegOk.says h.2 l[i]
      rw [badFlag_at hi] at c
      cases c1 : regOk l[i]
      · simp only [encReg, c1] at hm
        simp (maxSteps := 1000000) (disch := (first | omega | (simp; done) | (simp; omega))) [spec_FlagsOk.l0, List.range_succ, bs_get, List.take_of_length_le, setAt, str_add, sfS, hi, hm, encReg, c1]
      · simp [c1] at c
        simp only [encReg, c1] at hm
        simp (maxSteps := 1000000) (disch := (first | omega | (simp; done) | (simp; omega))) [spec_FlagsOk.l0, List.range_succ, bs_get, List.take_of_length_le, setAt, str_add, sfS, hi, hm, encReg, c1, c])
    (fun x => by simp (maxSteps := 1000000) (disch := (first | omega | (simp; done) | (simp; omega))) [spec_FlagsOk.l0, List.range_succ, bs_get, List.take_of_length_le, setAt, str_add, sfS, sfE])
  cases q : firstN (badFlag l) l.length with
  | none =>
    simp [sfS, sfE, q, fin1] at hr
    simp (maxSteps := 1000000) (disch := (first | omega | (simp; done) | (simp; omega))) [exB, spec_FlagsOk.m, spec_FlagsOk.b, List.range_succ, bs_get, List.take_of_length_le, setAt, str_add, hr, flagsOk, q]
    omega
  | some k =>
    simp [sfS, q, fin1] at hr
    simp (maxSteps := 1000000) (disch := (first | omega | (simp; done) | (simp; omega))) [exB, spec_FlagsOk.m, spec_FlagsOk.b, List.range_succ, bs_get, List.take_of_length_le, setAt, str_add, hr, flagsOk, q]
theorem impl_isGid.says (h : impl_isGid.k M) (n : Int) : run M 147 [.c (I n)] [] = some (.c (.bool (inR 1 n 9999)), []) := by
  have h1 := impl_within.inR h.2 n 1 9999
  refine run_code (b := impl_isGid.m) h.1 ⟨0, ?_⟩
  simp (maxSteps := 1000000) (disch := (first | omega | (simp; done) | (simp; omega))) [exB, impl_isGid.m, impl_isGid.b, List.range_succ, bs_get, List.take_of_length_le, setAt, str_add, h1]
def mailOk (m : Mail) : Bool := inR 1 m.gid 9999 && inR 1 m.uid 9999 && flagsOk m.flags && decide (m.text.length ≤ 60)
theorem impl_MailOk.says (h : impl_MailOk.k M) (m : Mail) (hl : m.flags.length ≤ 1048576) : run M 166 [.a (encMail m)] [] = some (.c (.bool (mailOk m)), []) := by
  have h1 := impl_isGid.says h.2.1 m.gid
  have h2 := impl_isGid.says h.2.1 m.uid
  have h3 := impl_FlagsOk.says h.2.2 m.flags hl
  refine run_code (b := impl_MailOk.m) h.1 ⟨0, ?_⟩
  cases c1 : inR 1 m.gid 9999
  · simp (maxSteps := 1000000) (disch := (first | omega | (simp; done) | (simp; omega))) [exB, impl_MailOk.m, impl_MailOk.b, List.range_succ, bs_get, List.take_of_length_le, setAt, str_add, h1, c1, mailOk]
  cases c2 : inR 1 m.uid 9999
  · simp (maxSteps := 1000000) (disch := (first | omega | (simp; done) | (simp; omega))) [exB, impl_MailOk.m, impl_MailOk.b, List.range_succ, bs_get, List.take_of_length_le, setAt, str_add, h1, h2, c1, c2, mailOk]
  cases c3 : flagsOk m.flags
  · simp (maxSteps := 1000000) (disch := (first | omega | (simp; done) | (simp; omega))) [exB, impl_MailOk.m, impl_MailOk.b, List.range_succ, bs_get, List.take_of_length_le, setAt, str_add, h1, h2, h3, c1, c2, c3, mailOk]
  simp (maxSteps := 1000000) (disch := (first | omega | (simp; done) | (simp; omega))) [exB, impl_MailOk.m, impl_MailOk.b, List.range_succ, bs_get, List.take_of_length_le, setAt, str_add, h1, h2, h3, c1, c2, c3, mailOk]
  omega
theorem spec_MailOk.says (h : spec_MailOk.k M) (m : Mail) (hl : m.flags.length ≤ 1048576) : run M 187 [.a (encMail m)] [] = some (.c (.bool (mailOk m)), []) := by
  have h1 := spec_l01In.inR h.2.1 m.gid 1 9999
  have h2 := spec_l01In.inR h.2.1 m.uid 1 9999
  have h3 := spec_FlagsOk.says h.2.2 m.flags hl
  refine run_code (b := spec_MailOk.m) h.1 ⟨0, ?_⟩
  cases c1 : inR 1 m.gid 9999
  · simp (maxSteps := 1000000) (disch := (first | omega | (simp; done) | (simp; omega))) [exB, spec_MailOk.m, spec_MailOk.b, List.range_succ, bs_get, List.take_of_length_le, setAt, str_add, h1, c1, mailOk]
  cases c2 : inR 1 m.uid 9999
  · simp (maxSteps := 1000000) (disch := (first | omega | (simp; done) | (simp; omega))) [exB, spec_MailOk.m, spec_MailOk.b, List.range_succ, bs_get, List.take_of_length_le, setAt, str_add, h1, h2, c1, c2, mailOk]
  cases c3 : flagsOk m.flags
  · simp (maxSteps := 1000000) (disch := (first | omega | (simp; done) | (simp; omega))) [exB, spec_MailOk.m, spec_MailOk.b, List.range_succ, bs_get, List.take_of_length_le, setAt, str_add, h1, h2, h3, c1, c2, c3, mailOk]
  simp (maxSteps := 1000000) (disch := (first | omega | (simp; done) | (simp; omega))) [exB, spec_MailOk.m, spec_MailOk.b, List.range_succ, bs_get, List.take_of_length_le, setAt, str_add, h1, h2, h3, c1, c2, c3, mailOk]
  omega
def badSign (l : List UInt8) (i : Nat) : Bool := match l[i]? with
  | some b => (decide ((b.toNat : Int) < 97) || decide (122 < (b.toNat : Int))) && (decide ((b.toNat : Int) < 48) || decide (57 < (b.toNat : Int)))
  | none => false
theorem badSign_at {l : List UInt8} {i : Nat} (h : i < l.length) :
    badSign l i = ((decide ((l[i].toNat : Int) < 97) || decide (122 < (l[i].toNat : Int))) && (decide ((l[i].toNat : Int) < 48) || decide (57 < (l[i].toNat : Int)))) := by simp [badSign, h]
def nameOk (l : List UInt8) : Bool := (firstN (badSign l) l.length).isNone && inR 1 l.length 12
def inSS (l : List UInt8) (i : Nat) (x : Nat) : St := { t := [(0, .c (S l)), (3, .c (I i))], o := [], n := x }
def inSE (l : List UInt8) (x : Nat) : St := { t := [(0, .c (S l)), (3, .c (I l.length)), (7, .c (.bool false))], o := [], n := x }
theorem impl_NameOk.says (h : impl_NameOk.k M) (l : List UInt8) (hl : l.length ≤ 4611686018427387904) : run M 89 [.c (S l)] [] = some (.c (.bool (nameOk l)), []) := by
  have h1 := impl_within.inR h.2 l.length 1 12
  refine run_code (b := impl_NameOk.m) h.1 ⟨l.length + 1, ?_⟩
  obtain ⟨g, hr⟩ := early_loop (f := exC (run M) (l.length + 1) impl_NameOk.l0) l.length (badSign l) (inSS l) 2 (.bool false) 0 (inSE l)
    (fun i hi x c => by
      have e5 := wrap1 (i := i) (by omega)
      rw [badSign_at hi] at c
      generalize hb : ((l[i].toNat : Nat) : Int) = b at c
      by_cases c1 : b < 97
      · by_cases c2 : b < 48
        · simp [c1, c2] at c
        · by_cases c3 : 57 < b
          · simp [c1, c2, c3] at c
          · simp (maxSteps := 1000000) (disch := (first | omega | (simp; done) | (simp; omega))) [impl_NameOk.l0, List.range_succ, bs_get, List.take_of_length_le, setAt, str_add, inSS, hi, e5, hb, c1, c2, c3]
      · by_cases c4 : 122 < b
        · have c3 : 57 < b := by omega
          simp [c1, c4, c3] at c
        · simp (maxSteps := 1000000) (disch := (first | omega | (simp; done) | (simp; omega))) [impl_NameOk.l0, List.range_succ, bs_get, List.take_of_length_le, setAt, str_add, inSS, hi, e5, hb, c1, c4])
    (fun i hi x c => by
      rw [badSign_at hi] at c
      generalize hb : ((l[i].toNat : Nat) : Int) = b at c
      by_cases c1 : b < 97
      · by_cases c2 : b < 48
        · simp (maxSteps := 1000000) (disch := (first | omega | (simp; done) | (simp; omega))) [impl_NameOk.l0, List.range_succ, bs_get, List.take_of_length_le, setAt, str_add, inSS, hi, hb, c1, c2]
        · by_cases c3 : 57 < b
          · simp (maxSteps := 1000000) (disch := (first | omega | (simp; done) | (simp; omega))) [impl_NameOk.l0, List.range_succ, bs_get, List.take_of_length_le, setAt, str_add, inSS, hi, hb, c1, c2, c3]
          · simp [c1, c2, c3] at c
      · by_cases c4 : 122 < b
        · have c2 : ¬ b < 48 := by omega
          have c3 : 57 < b := by omega
          simp (maxSteps := 1000000) (disch := (first | omega | (simp; done) | (simp; omega))) [impl_NameOk.l0, List.range_succ, bs_get, List.take_of_length_le, setAt, str_add, inSS, hi, hb, c1, c2, c3, c4]
        · simp [c1, c4] at c)
    (fun x => by simp (maxSteps := 1000000) (disch := (first | omega | (simp; done) | (simp; omega))) [impl_NameOk.l0, List.range_succ, bs_get, List.take_of_length_le, setAt, str_add, inSS, inSE])
  cases q : firstN (badSign l) l.length with
  | none =>
    simp [inSS, inSE, q, fin1] at hr
    simp (maxSteps := 1000000) (disch := (first | omega | (simp; done) | (simp; omega))) [exB, impl_NameOk.m, impl_NameOk.b, List.range_succ, bs_get, List.take_of_length_le, setAt, str_add, hr, nameOk, q, h1]
  | some k =>
    simp [inSS, q, fin1] at hr
    simp (maxSteps := 1000000) (disch := (first | omega | (simp; done) | (simp; omega))) [exB, impl_NameOk.m, impl_NameOk.b, List.range_succ, bs_get, List.take_of_length_le, setAt, str_add, hr, nameOk, q]
def snSS (l : List UInt8) (i : Nat) (x : Nat) : St := { t := [(0, .c (S l)), (3, .c (I i))], o := [], n := x }
def snSE (l : List UInt8) (x : Nat) : St := { t := [(0, .c (S l)), (3, .c (I l.length)), (7, .c (.bool false))], o := [], n := x }
theorem spec_NameOk.says (h : spec_NameOk.k M) (l : List UInt8) (hl : l.length ≤ 4611686018427387904) : run M 90 [.c (S l)] [] = some (.c (.bool (nameOk l)), []) := by
  have h1 := spec_l01In.inR h.2 l.length 1 12
  refine run_code (b := spec_NameOk.m) h.1 ⟨l.length + 1, ?_⟩
  obtain ⟨g, hr⟩ := early_loop (f := exC (run M) (l.length + 1) spec_NameOk.l0) l.length (badSign l) (snSS l) 2 (.bool false) 0 (snSE l)
    (fun i hi x c => by
      have e5 := wrap1 (i := i) (by omega)
      rw [badSign_at hi] at c
      generalize hb : ((l[i].toNat : Nat) : Int) = b at c
      by_cases c1 : b < 97
      · by_cases c2 : b < 48
        · simp [c1, c2] at c
        · by_cases c3 : 57 < b
          · simp [c1, c2, c3] at c
          · simp (maxSteps := 1000000) (disch := (first | omega | (simp; done) | (simp; omega))) [spec_NameOk.l0, List.range_succ, bs_get, List.take_of_length_le, setAt, str_add, snSS, hi, e5, hb, c1, c2, c3]
      · by_cases c4 : 122 < b
        · have c3 : 57 < b := by omega
          simp [c1, c4, c3] at c
        · simp (maxSteps := 1000000) (disch := (first | omega | (simp; done) | (simp; omega))) [spec_NameOk.l0, List.range_succ, bs_get, List.take_of_length_le, setAt, str_add, snSS, hi, e5, hb, c1, c4])
    (fun i hi x c => by
      rw [badSign_at hi] at c
      generalize hb : ((l[i].toNat : Nat) : Int) = b at c
      by_cases c1 : b < 97
      · by_cases c2 : b < 48
        · simp (maxSteps := 1000000) (disch := (first | omega | (simp; done) | (simp; omega))) [spec_NameOk.l0, List.range_succ, bs_get, List.take_of_length_le, setAt, str_add, snSS, hi, hb, c1, c2]
        · by_cases c3 : 57 < b
          · simp (maxSteps := 1000000) (disch := (first | omega | (simp; done) | (simp; omega))) [spec_NameOk.l0, List.range_succ, bs_get, List.take_of_length_le, setAt, str_add, snSS, hi, hb, c1, c2, c3]
          · simp [c1, c2, c3] at c
      · by_cases c4 : 122 < b
        · have c2 : ¬ b < 48 := by omega
          have c3 : 57 < b := by omega
          simp (maxSteps := 1000000) (disch := (first | omega | (simp; done) | (simp; omega))) [spec_NameOk.l0, List.range_succ, bs_get, List.take_of_length_le, setAt, str_add, snSS, hi, hb, c1, c2, c3, c4]
        · simp [c1, c4] at c)
    (fun x => by simp (maxSteps := 1000000) (disch := (first | omega | (simp; done) | (simp; omega))) [spec_NameOk.l0, List.range_succ, bs_get, List.take_of_length_le, setAt, str_add, snSS, snSE])
  cases q : firstN (badSign l) l.length with
  | none =>
    simp [snSS, snSE, q, fin1] at hr
    simp (maxSteps := 1000000) (disch := (first | omega | (simp; done) | (simp; omega))) [exB, spec_NameOk.m, spec_NameOk.b, List.range_succ, bs_get, List.take_of_length_le, setAt, str_add, hr, nameOk, q, h1]
  | some k =>
    simp [snSS, q, fin1] at hr
    simp (maxSteps := 1000000) (disch := (first | omega | (simp; done) | (simp; omega))) [exB, spec_NameOk.m, spec_NameOk.b, List.range_succ, bs_get, List.take_of_length_le, setAt, str_add, hr, nameOk, q]
def badGid (l : List Int) (i : Nat) : Bool := match l[i]? with
  | some g => !inR 1 g 9999 || (decide (0 < i) && match l[i - 1]? with | some f => decide (g ≤ f) | none => false)
  | none => false
theorem badGid_at {l : List Int} {i : Nat} (h : i < l.length) : badGid l i = (!inR 1 l[i] 9999 || (decide (0 < i) && decide (l[i] ≤ l[i - 1]))) := by
  simp [badGid, h, (show i - 1 < l.length by omega)]
def gidsOk (l : List Int) (most : Int) : Bool := (firstN (badGid l) l.length).isNone && decide ((l.length : Int) ≤ most)
def agS (l : List Int) (most : Int) (i : Nat) (x : Nat) : St := { t := [(0, .c (ints l)), (1, .c (I most)), (7, .c (ints l)), (8, .c (I l.length)), (9, .c (I i))], o := [], n := x }
def agE (l : List Int) (most : Int) (x : Nat) : St := { t := [(0, .c (ints l)), (1, .c (I most)), (7, .c (ints l)), (8, .c (I l.length)), (9, .c (I l.length)), (10, .c (.bool false))], o := [], n := x }
theorem impl_areGids.says (h : impl_areGids.k M) (l : List Int) (most : Int) (hl : l.length ≤ 4611686018427387904) : run M 165 [.c (ints l), .c (I most)] [] = some (.c (.bool (gidsOk l most)), []) := by
  refine run_code (b := impl_areGids.m) h.1 ⟨l.length + 1, ?_⟩
  obtain ⟨g, hr⟩ := early_loop (f := exC (run M) (l.length + 1) impl_areGids.l0) l.length (badGid l) (agS l most) 4 (.bool false) 0 (agE l most)
    (fun i hi x c => by
      have e5 := wrap1 (i := i) (by omega)
      have hm := impl_isGid.says h.2 l[i]
      rw [badGid_at hi] at c
      simp at c
      simp only [c.1] at hm
      by_cases c1 : 0 < i
      · have c2 : ¬ l[i] ≤ l[i - 1] := by have := c.2 c1; omega
        have e6 : IntKind.i64.wrap ((i : Int) - 1) = ((i - 1 : Nat) : Int) := by rw [wrap_i64 (by omega) (by omega)]; omega
        simp (maxSteps := 1000000) (disch := (first | omega | (simp; done) | (simp; omega))) [impl_areGids.l0, List.range_succ, bs_get, List.take_of_length_le, setAt, str_add, agS, hi, hm, c1, c2, e5, e6, (show i - 1 < l.length by omega)]
      · simp (maxSteps := 1000000) (disch := (first | omega | (simp; done) | (simp; omega))) [impl_areGids.l0, List.range_succ, bs_get, List.take_of_length_le, setAt, str_add, agS, hi, hm, c1, e5])
    (fun i hi x c => by
      have hm := impl_isGid.says h.2 l[i]
      rw [badGid_at hi] at c
      cases c1 : inR 1 l[i] 9999
      · simp only [c1] at hm
        simp (maxSteps := 1000000) (disch := (first | omega | (simp; done) | (simp; omega))) [impl_areGids.l0, List.range_succ, bs_get, List.take_of_length_le, setAt, str_add, agS, hi, hm]
      · simp [c1] at c
        obtain ⟨c2, c3⟩ := c
        simp only [c1] at hm
        have e6 : IntKind.i64.wrap ((i : Int) - 1) = ((i - 1 : Nat) : Int) := by rw [wrap_i64 (by omega) (by omega)]; omega
        simp (maxSteps := 1000000) (disch := (first | omega | (simp; done) | (simp; omega))) [impl_areGids.l0, List.range_succ, bs_get, List.take_of_length_le, setAt, str_add, agS, hi, hm, c2, c3, e6, (show i - 1 < l.length by omega)])
    (fun x => by simp (maxSteps := 1000000) (disch := (first | omega | (simp; done) | (simp; omega))) [impl_areGids.l0, List.range_succ, bs_get, List.take_of_length_le, setAt, str_add, agS, agE])
  cases q : firstN (badGid l) l.length with
  | none =>
    simp [agS, agE, q, fin1] at hr
    simp (maxSteps := 1000000) (disch := (first | omega | (simp; done) | (simp; omega))) [exB, impl_areGids.m, impl_areGids.b, List.range_succ, bs_get, List.take_of_length_le, setAt, str_add, hr, gidsOk, q]
  | some k =>
    simp [agS, q, fin1] at hr
    simp (maxSteps := 1000000) (disch := (first | omega | (simp; done) | (simp; omega))) [exB, impl_areGids.m, impl_areGids.b, List.range_succ, bs_get, List.take_of_length_le, setAt, str_add, hr, gidsOk, q]
def soS (l : List Int) (most : Int) (i : Nat) (x : Nat) : St := { t := [(0, .c (ints l)), (1, .c (I most)), (5, .c (I i))], o := [], n := x }
def soE (l : List Int) (most : Int) (x : Nat) : St := { t := [(0, .c (ints l)), (1, .c (I most)), (5, .c (I l.length)), (9, .c (.bool false))], o := [], n := x }
theorem spec_l06Sorted.says (h : spec_l06Sorted.k M) (l : List Int) (most : Int) (hl : l.length ≤ 4611686018427387904) : run M 186 [.c (ints l), .c (I most)] [] = some (.c (.bool (gidsOk l most)), []) := by
  refine run_code (b := spec_l06Sorted.m) h.1 ⟨l.length + 1, ?_⟩
  obtain ⟨g, hr⟩ := early_loop (f := exC (run M) (l.length + 1) spec_l06Sorted.l0) l.length (badGid l) (soS l most) 4 (.bool false) 0 (soE l most)
    (fun i hi x c => by
      have e5 := wrap1 (i := i) (by omega)
      have hm := spec_l01In.inR h.2 l[i] 1 9999
      rw [badGid_at hi] at c
      simp at c
      simp only [c.1] at hm
      by_cases c1 : 0 < i
      · have c2 : ¬ l[i] ≤ l[i - 1] := by have := c.2 c1; omega
        have e6 : IntKind.i64.wrap ((i : Int) - 1) = ((i - 1 : Nat) : Int) := by rw [wrap_i64 (by omega) (by omega)]; omega
        simp (maxSteps := 1000000) (disch := (first | omega | (simp; done) | (simp; omega))) [spec_l06Sorted.l0, List.range_succ, bs_get, List.take_of_length_le, setAt, str_add, soS, hi, hm, c1, c2, e5, e6, (show i - 1 < l.length by omega)]
      · simp (maxSteps := 1000000) (disch := (first | omega | (simp; done) | (simp; omega))) [spec_l06Sorted.l0, List.range_succ, bs_get, List.take_of_length_le, setAt, str_add, soS, hi, hm, c1, e5])
    (fun i hi x c => by
      have hm := spec_l01In.inR h.2 l[i] 1 9999
      rw [badGid_at hi] at c
      cases c1 : inR 1 l[i] 9999
      · simp only [c1] at hm
        simp (maxSteps := 1000000) (disch := (first | omega | (simp; done) | (simp; omega))) [spec_l06Sorted.l0, List.range_succ, bs_get, List.take_of_length_le, setAt, str_add, soS, hi, hm]
      · simp [c1] at c
        obtain ⟨c2, c3⟩ := c
        simp only [c1] at hm
        have e6 : IntKind.i64.wrap ((i : Int) - 1) = ((i - 1 : Nat) : Int) := by rw [wrap_i64 (by omega) (by omega)]; omega
        simp (maxSteps := 1000000) (disch := (first | omega | (simp; done) | (simp; omega))) [spec_l06Sorted.l0, List.range_succ, bs_get, List.take_of_length_le, setAt, str_add, soS, hi, hm, c2, c3, e6, (show i - 1 < l.length by omega)])
    (fun x => by simp (maxSteps := 1000000) (disch := (first | omega | (simp; done) | (simp; omega))) [spec_l06Sorted.l0, List.range_succ, bs_get, List.take_of_length_le, setAt, str_add, soS, soE])
  cases q : firstN (badGid l) l.length with
  | none =>
    simp [soS, soE, q, fin1] at hr
    simp (maxSteps := 1000000) (disch := (first | omega | (simp; done) | (simp; omega))) [exB, spec_l06Sorted.m, spec_l06Sorted.b, List.range_succ, bs_get, List.take_of_length_le, setAt, str_add, hr, gidsOk, q]
  | some k =>
    simp [soS, q, fin1] at hr
    simp (maxSteps := 1000000) (disch := (first | omega | (simp; done) | (simp; omega))) [exB, spec_l06Sorted.m, spec_l06Sorted.b, List.range_succ, bs_get, List.take_of_length_le, setAt, str_add, hr, gidsOk, q]
def isAt (l : List Int) (g : Int) (i : Nat) : Bool := match l[i]? with
  | some x => decide (x = g)
  | none => false
theorem isAt_at {l : List Int} {g : Int} {i : Nat} (h : i < l.length) : isAt l g i = decide (l[i] = g) := by simp [isAt, h]
theorem isAt_mem (l : List Int) (g : Int) : (firstN (isAt l g) l.length).isSome = decide (g ∈ l) := by
  rw [Bool.eq_iff_iff]
  simp only [decide_eq_true_eq]
  cases q : firstN (isAt l g) l.length with
  | none =>
    have := firstN_none q
    refine ⟨fun h => by simp at h, fun h => ?_⟩
    obtain ⟨i, hi, e⟩ := List.getElem_of_mem h
    have h1 := this i hi
    rw [isAt_at hi] at h1
    simp [e] at h1
  | some k =>
    obtain ⟨h1, h2, _⟩ := firstN_some q
    rw [isAt_at h1] at h2
    simp at h2
    refine ⟨fun _ => ?_, fun _ => rfl⟩
    rw [← h2]; exact List.getElem_mem h1
def siS (l : List Int) (g : Int) (i : Nat) (x : Nat) : St := { t := [(0, .c (ints l)), (1, .c (I g)), (5, .c (I i))], o := [], n := x }
def siE (l : List Int) (g : Int) (x : Nat) : St := { t := [(0, .c (ints l)), (1, .c (I g)), (5, .c (I l.length)), (9, .c (.bool false))], o := [], n := x }
theorem spec_l06In.says (h : spec_l06In.k M) (l : List Int) (g : Int) (hl : l.length ≤ 4611686018427387904) : run M 132 [.c (ints l), .c (I g)] [] = some (.c (.bool (decide (g ∈ l))), []) := by
  refine run_code (b := spec_l06In.m) h ⟨l.length + 1, ?_⟩
  obtain ⟨g', hr⟩ := early_loop (f := exC (run M) (l.length + 1) spec_l06In.l0) l.length (isAt l g) (siS l g) 4 (.bool true) 0 (siE l g)
    (fun i hi x c => by
      have e5 := wrap1 (i := i) (by omega)
      rw [isAt_at hi] at c
      simp at c
      simp (maxSteps := 1000000) (disch := (first | omega | (simp; done) | (simp; omega))) [spec_l06In.l0, List.range_succ, bs_get, List.take_of_length_le, setAt, str_add, siS, hi, e5, c])
    (fun i hi x c => by
      rw [isAt_at hi] at c
      simp at c
      simp (maxSteps := 1000000) (disch := (first | omega | (simp; done) | (simp; omega))) [spec_l06In.l0, List.range_succ, bs_get, List.take_of_length_le, setAt, str_add, siS, hi, c])
    (fun x => by simp (maxSteps := 1000000) (disch := (first | omega | (simp; done) | (simp; omega))) [spec_l06In.l0, List.range_succ, bs_get, List.take_of_length_le, setAt, str_add, siS, siE])
  have hm := isAt_mem l g
  rw [← hm]
  cases q : firstN (isAt l g) l.length with
  | none =>
    simp [siS, siE, q, fin1] at hr
    simp (maxSteps := 1000000) (disch := (first | omega | (simp; done) | (simp; omega))) [exB, spec_l06In.m, spec_l06In.b, List.range_succ, bs_get, List.take_of_length_le, setAt, str_add, hr]
  | some k =>
    simp [siS, q, fin1] at hr
    simp (maxSteps := 1000000) (disch := (first | omega | (simp; done) | (simp; omega))) [exB, spec_l06In.m, spec_l06In.b, List.range_succ, bs_get, List.take_of_length_le, setAt, str_add, hr]
def xiS (l : List Int) (g : Int) (i : Nat) (x : Nat) : St := { t := [(0, .c (ints l)), (1, .c (I g)), (7, .c (I l.length)), (8, .c (I i))], o := [], n := x }
theorem slices_Index_int_int.says (h : slices_Index_int_int.k M) (l : List Int) (g : Int) (hl : l.length ≤ 4611686018427387904) : run M 234 [.c (ints l), .c (I g)] [] = some (.c (I (intO (firstN (isAt l g) l.length))), []) := by
  refine run_code (b := slices_Index_int_int.m) h ⟨l.length + 1, ?_⟩
  obtain ⟨g', hr⟩ := first_loop (f := exC (run M) (l.length + 1) slices_Index_int_int.l0) l.length (isAt l g) (xiS l g) atFin atFin_ne
    (fun i hi x c => by
      have e5 := wrap1 (i := i) (by omega)
      rw [isAt_at hi] at c
      simp at c
      have c' : ¬ g = l[i] := fun q => c q.symm
      simp (maxSteps := 1000000) (disch := (first | omega | (simp; done) | (simp; omega))) [slices_Index_int_int.l0, List.range_succ, bs_get, List.take_of_length_le, setAt, str_add, xiS, hi, e5, c, c'])
    (fun i hi x c => by
      rw [isAt_at hi] at c
      simp at c
      simp (maxSteps := 1000000) (disch := (first | omega | (simp; done) | (simp; omega))) [slices_Index_int_int.l0, List.range_succ, bs_get, List.take_of_length_le, setAt, str_add, xiS, hi, c, atFin]
      exact ⟨⟨[], [], _⟩, rfl⟩)
    (fun x => by simp (maxSteps := 1000000) (disch := (first | omega | (simp; done) | (simp; omega))) [slices_Index_int_int.l0, List.range_succ, bs_get, List.take_of_length_le, setAt, str_add, xiS, atFin])
  cases q : firstN (isAt l g) l.length with
  | none =>
    simp [xiS, q, atFin] at hr
    simp (maxSteps := 1000000) (disch := (first | omega | (simp; done) | (simp; omega))) [exB, slices_Index_int_int.m, slices_Index_int_int.b, List.range_succ, bs_get, List.take_of_length_le, setAt, str_add, hr, intO]
  | some k =>
    simp [xiS, q, atFin] at hr
    simp (maxSteps := 1000000) (disch := (first | omega | (simp; done) | (simp; omega))) [exB, slices_Index_int_int.m, slices_Index_int_int.b, List.range_succ, bs_get, List.take_of_length_le, setAt, str_add, hr, intO]
theorem intO_pos (q : Option Nat) : decide (0 ≤ intO q) = q.isSome := by cases q <;> simp [intO]
theorem slices_Contains_int_int.says (h : slices_Contains_int_int.k M) (l : List Int) (g : Int) (hl : l.length ≤ 4611686018427387904) : run M 156 [.c (ints l), .c (I g)] [] = some (.c (.bool (decide (g ∈ l))), []) := by
  have h1 := slices_Index_int_int.says h.2 l g hl
  refine run_code (b := slices_Contains_int_int.m) h.1 ⟨0, ?_⟩
  rw [← isAt_mem l g, ← intO_pos]
  simp (maxSteps := 1000000) (disch := (first | omega | (simp; done) | (simp; omega))) [exB, slices_Contains_int_int.m, slices_Contains_int_int.b, List.range_succ, bs_get, List.take_of_length_le, setAt, str_add, h1]
end Mx

namespace Mx
open Go
variable {M : Nat → Option Body}
def guS (l : List Int) (x : Int) (i : Nat) (s : List Int) (m : Nat × Nat) : St := { t := [(0, .c (ints l)), (1, .c (I x)), (5, .c (.row 8 m.1 0 s.length)), (6, .c (I i))], o := [(8, ⟨m.1, 1, true, false, irow s⟩)], n := m.2 }
def guE (l : List Int) (x : Int) (s : List Int) (m : Nat × Nat) : St := { t := [(0, .c (ints l)), (1, .c (I x)), (5, .c (.row 8 m.1 0 s.length)), (6, .c (I l.length)), (12, .c (.bool false))], o := [(8, ⟨m.1, 1, true, false, irow s⟩)], n := m.2 }
def gvS (l : List Int) (x : Int) (i : Nat) (s : List Int) (m : Nat × Nat) : St := { t := [(0, .c (ints l)), (1, .c (I x)), (5, .c (.row 8 m.1 0 s.length)), (7, .c (I i))], o := [(8, ⟨m.1, 1, true, false, irow s⟩)], n := m.2 }
def gvE (l : List Int) (x : Int) (s : List Int) (m : Nat × Nat) : St := { t := [(0, .c (ints l)), (1, .c (I x)), (5, .c (.row 8 m.1 0 s.length)), (7, .c (I l.length)), (35, .c (.bool false))], o := [(8, ⟨m.1, 1, true, false, irow s⟩)], n := m.2 }
theorem filter_fold (p : Int → Bool) : ∀ (l s : List Int), l.foldl (fun s a => if p a = true then s ++ [a] else s) s = s ++ l.filter p
  | [], s => by simp
  | a :: l, s => by
    rw [List.foldl_cons, filter_fold p l, List.filter_cons]
    by_cases h : p a = true <;> simp [h]
theorem irow_snoc (s : List Int) (a : Int) : irow (s ++ [a]) = irow s ++ [[I a]] := by simp [irow]
theorem irow_length (s : List Int) : (irow s).length = s.length := by simp [irow]
theorem spec_l06Put.says (h : spec_l06Put.k M) (l : List Int) (x : Int) (hl : l.length ≤ 16777216) : run M 133 [.c (ints l), .c (I x)] [] = some (.c (.sl true 1 (irow (gput l x))), []) := by
  refine run_code (b := spec_l06Put.m) h ⟨l.length + 1, ?_⟩
  obtain ⟨g, hr⟩ := fold_loop (f := exC (run M) (l.length + 1) spec_l06Put.l0) l (fun s a => if decide (a < x) = true then s ++ [a] else s) (fun i s => s.length ≤ i) (guS l x) 0 (guE l x)
    (fun i h s hs => by split <;> (try simp) <;> omega)
    (fun i hi s m hs => by
      obtain ⟨v, m⟩ := m
      have e5 := wrap1 (i := i) (by omega)
      have e6 : s.length + 1 ≤ 4294967296 := by omega
      have e9 := irow_length s
      simp only [Prod.exists]
      by_cases c : l[i] < x
      · simp only [c, decide_true, if_true, guS, irow_snoc]
        generalize irow s = rr at *
        simp (maxSteps := 1000000) [spec_l06Put.l0, List.range_succ, bs_get, setAt, hi, c, e5, e6, e9, List.take_of_length_le]
      · simp only [c, decide_false, Bool.false_eq_true, if_false]
        simp (maxSteps := 1000000) [spec_l06Put.l0, List.range_succ, bs_get, setAt, guS, hi, c, e5])
    (fun s m hs => by
      obtain ⟨v, m⟩ := m
      simp only [Prod.exists]
      simp (maxSteps := 1000000) [spec_l06Put.l0, List.range_succ, bs_get, setAt, guS, guE]) [] (by simp)
  obtain ⟨g', hr'⟩ := fold_loop (f := exC (run M) (l.length + 1) spec_l06Put.l1) l (fun s a => if decide (x < a) = true then s ++ [a] else s) (fun i s => s.length ≤ l.length + 1 + i) (gvS l x) 2 (gvE l x)
    (fun i h s hs => by split <;> (try simp) <;> omega)
    (fun i hi s m hs => by
      obtain ⟨v, m⟩ := m
      have e5 := wrap1 (i := i) (by omega)
      have e6 : s.length + 1 ≤ 4294967296 := by omega
      have e9 := irow_length s
      simp only [Prod.exists]
      by_cases c : x < l[i]
      · simp only [c, decide_true, if_true, gvS, irow_snoc]
        generalize irow s = rr at *
        simp (maxSteps := 1000000) [spec_l06Put.l1, List.range_succ, bs_get, setAt, hi, c, e5, e6, e9, List.take_of_length_le]
      · simp only [c, decide_false, Bool.false_eq_true, if_false]
        simp (maxSteps := 1000000) [spec_l06Put.l1, List.range_succ, bs_get, setAt, gvS, hi, c, e5])
    (fun s m hs => by
      obtain ⟨v, m⟩ := m
      simp only [Prod.exists]
      simp (maxSteps := 1000000) [spec_l06Put.l1, List.range_succ, bs_get, setAt, gvS, gvE]) (l.filter (fun y => decide (y < x)) ++ [x]) (by have := List.length_filter_le (fun y => decide (y < x)) l; simp; omega)
  rw [filter_fold] at hr hr'
  have hfl := List.length_filter_le (fun y => decide (y < x)) l
  have e6 : (l.filter (fun y => decide (y < x))).length + 1 ≤ 4294967296 := by omega
  have e9 := irow_length (l.filter (fun y => decide (y < x)))
  have e10 := irow_length (l.filter (fun y => decide (y < x)) ++ [x] ++ l.filter (fun y => decide (x < y)))
  have e11 : (l.filter (fun y => decide (y < x)) ++ [x] ++ l.filter (fun y => decide (x < y))).length = (l.filter (fun y => decide (y < x))).length + ((l.filter (fun y => decide (x < y))).length + 1) := by simp only [List.length_append, List.length_singleton]; omega
  rw [e11] at e10
  have e12 := irow_snoc (l.filter (fun y => decide (y < x))) x
  unfold gput
  simp only [List.nil_append] at hr
  simp only [guS, guE, List.length_nil, e11] at hr
  simp only [gvS, gvE, e12, e11, List.length_append, List.length_singleton] at hr'
  generalize irow (l.filter (fun y => decide (y < x)) ++ [x] ++ l.filter (fun y => decide (x < y))) = r2 at *
  generalize irow (l.filter (fun y => decide (y < x))) = r1 at *
  simp [irow] at hr
  simp at hr'
  simp (maxSteps := 1000000) [exB, spec_l06Put.m, spec_l06Put.b, List.range_succ, bs_get, setAt, hr, hr', e6, e9, e10, List.take_of_length_le, irow]
structure GX where
  w : Nat
  v8 : Nat
  v1 : Nat
  v2 : Nat
  r8 : List (List T)
  r1 : List (List T)
  n : Nat
theorem GX.of {p : GX → Prop} (w r8 r1) (h : ∃ v8 v1 v2 n, p ⟨w, v8, v1, v2, r8, r1, n⟩) : ∃ x, p x := by
  obtain ⟨v8, v1, v2, n, h⟩ := h; exact ⟨_, h⟩
theorem irow_scalar (l : List Int) : (irow l).all (fun r => r.all T.scalar) = true := by simp [irow, T.scalar]
theorem run_sort (h : M 135 = some (.ext sortG)) (zs : List Int) (hz : zs.length ≤ 4294967296) : run M 135 [.c (.row 0 0 0 zs.length)] [(0, ⟨0, 1, true, false, irow zs⟩)] = some (.tup [], [(0, ⟨0, 1, true, false, irow (sortI zs)⟩)]) := by
  refine run_ext h ?_
  simp [sortG, lentInts, rowsInts_irow, hz]
theorem run_compact (h : M 136 = some (.ext compactG)) (zs : List Int) (hz : zs.length ≤ 4294967296) :
    run M 136 [.c (.row 0 0 0 zs.length)] [(0, ⟨0, 1, true, false, irow zs⟩)] = some (.c (.row 0 0 0 (Lib.compact zs).length), [(0, ⟨0, 1, true, false, irow (Lib.compact zs ++ List.replicate (zs.length - (Lib.compact zs).length) 0)⟩)]) := by
  refine run_ext h ?_
  simp [compactG, lentInts, rowsInts_irow, hz]
end Mx

namespace Mx
open Go
variable {M : Nat → Option Body}
theorem impl_isFlags.says (h : impl_isFlags.k M) (n : Int) : run M 148 [.c (I n)] [] = some (.c (.bool (inR 0 n 7)), []) := by
  have h1 := impl_within.inR h.2 n 0 7
  refine run_code (b := impl_isFlags.m) h.1 ⟨0, ?_⟩
  simp (maxSteps := 1000000) [exB, impl_isFlags.m, impl_isFlags.b, List.range_succ, bs_get, setAt, h1]
end Mx

namespace Mx
open Go
variable {M : Nat → Option Body}
def badMail (b : Box) (i : Nat) : Bool := match b.mails[i]? with
  | some m => !mailOk m || decide (b.next ≤ m.uid) || (decide (0 < i) && match b.mails[i - 1]? with | some p => decide (m.uid ≤ p.uid) | none => false) || !decide (intO (mailO b.mails m.gid) = (i : Int)) || decide (m.gid ∈ b.gone)
  | none => false
theorem badMail_at {b : Box} {i : Nat} (h : i < b.mails.length) : badMail b i = (!mailOk b.mails[i] || decide (b.next ≤ b.mails[i].uid) || (decide (0 < i) && decide (b.mails[i].uid ≤ b.mails[i - 1].uid)) ||
    !decide (intO (mailO b.mails b.mails[i].gid) = (i : Int)) || decide (b.mails[i].gid ∈ b.gone)) := by
  simp [badMail, h, (show i - 1 < b.mails.length by omega)]
def boxOk (b : Box) : Bool := inR 1 b.gid 9999 && nameOk b.name && stampOk b.time b.who && inR 1 b.next 10000 && decide (b.mails.length ≤ 10) && gidsOk b.gone 40 && (firstN (badMail b) b.mails.length).isNone
def ibS (b : Box) (i : Nat) (x : Nat × Nat) : St := { t := [(1, .c (.ptr 1 x.1 0 0)), (40, .c (mails b.mails)), (41, .c (I b.mails.length)), (42, .c (I i))], o := [(1, ⟨x.1, 7, true, true, [encBox b]⟩)], n := x.2 }
def ibSE (b : Box) (x : Nat × Nat) : St := { t := [(1, .c (.ptr 1 x.1 0 0)), (40, .c (mails b.mails)), (41, .c (I b.mails.length)), (42, .c (I b.mails.length)), (43, .c (.bool false))], o := [(1, ⟨x.1, 7, true, true, [encBox b]⟩)], n := x.2 }
theorem impl_BoxOk.good (hat : impl_MailAt.k M) (hin : slices_Contains_int_int.k M) (hmo : impl_MailOk.k M) (b : Box) (hml : b.mails.length ≤ 1048576) (hgl : b.gone.length ≤ 4611686018427387904) (hw : ∀ m ∈ b.mails, m.flags.length ≤ 1048576)
    (i : Nat) (hi : i < b.mails.length) (x : Nat × Nat) (c : badMail b i = false) : ∃ y, exC (run M) (b.mails.length + 1) impl_BoxOk.l0 (ibS b i x) = some (.normal, ibS b (i + 1) y) := by
      obtain ⟨v, x⟩ := x
      simp only [Prod.exists]
      have hm := impl_MailOk.says hmo b.mails[i] (hw _ (List.getElem_mem hi))
      have ha := impl_MailAt.says hat b b.mails[i].gid hml
      have hg := slices_Contains_int_int.says hin b.gone b.mails[i].gid hgl
      simp only [encMail, encBox] at hm ha hg
      rw [badMail_at hi] at c
      simp at c
      obtain ⟨⟨⟨⟨c1, c2⟩, c3⟩, c4⟩, c5⟩ := c
      have e5 := wrap1 (i := i) (by omega)
      rw [c1] at hm
      rw [c4] at ha
      rw [decide_eq_false c5] at hg
      have c2' : ¬ b.next ≤ b.mails[i].uid := by omega
      by_cases c6 : 0 < i
      · have e6 : IntKind.i64.wrap ((i : Int) - 1) = ((i - 1 : Nat) : Int) := by rw [wrap_i64 (by omega) (by omega)]; omega
        have c3' : ¬ b.mails[i].uid ≤ b.mails[i - 1].uid := by have := c3 c6; omega
        simp (maxSteps := 1000000) [impl_BoxOk.l0, List.range_succ, bs_get, setAt, ibS, encMail, hi, hm, ha, hg, c2', c6, c3', e5, e6, (show i - 1 < b.mails.length by omega)]
      · simp (maxSteps := 1000000) [impl_BoxOk.l0, List.range_succ, bs_get, setAt, ibS, encMail, hi, hm, ha, hg, c2', c6, e5]
theorem impl_BoxOk.bad (hat : impl_MailAt.k M) (hin : slices_Contains_int_int.k M) (hmo : impl_MailOk.k M) (b : Box) (hml : b.mails.length ≤ 1048576) (hgl : b.gone.length ≤ 4611686018427387904) (hw : ∀ m ∈ b.mails, m.flags.length ≤ 1048576)
    (i : Nat) (hi : i < b.mails.length) (x : Nat × Nat) (c : badMail b i = true) : ∃ k, exC (run M) (b.mails.length + 1) impl_BoxOk.l0 (ibS b i x) = some (.ret, { t := [(2, .c (.bool false))], o := [], n := k }) := by
      obtain ⟨v, x⟩ := x
      have hm := impl_MailOk.says hmo b.mails[i] (hw _ (List.getElem_mem hi))
      have ha := impl_MailAt.says hat b b.mails[i].gid hml
      have hg := slices_Contains_int_int.says hin b.gone b.mails[i].gid hgl
      simp only [encMail, encBox] at hm ha hg
      rw [badMail_at hi] at c
      cases c1 : mailOk b.mails[i]
      · rw [c1] at hm
        simp (maxSteps := 1000000) [impl_BoxOk.l0, List.range_succ, bs_get, setAt, ibS, encMail, hi, hm]
      rw [c1] at hm
      by_cases c2 : b.next ≤ b.mails[i].uid
      · simp (maxSteps := 1000000) [impl_BoxOk.l0, List.range_succ, bs_get, setAt, ibS, encMail, hi, hm, c2]
      have c2' : ¬ b.next ≤ b.mails[i].uid := c2
      by_cases c6 : 0 < i
      · have e6 : IntKind.i64.wrap ((i : Int) - 1) = ((i - 1 : Nat) : Int) := by rw [wrap_i64 (by omega) (by omega)]; omega
        by_cases c3 : b.mails[i].uid ≤ b.mails[i - 1].uid
        · simp (maxSteps := 1000000) [impl_BoxOk.l0, List.range_succ, bs_get, setAt, ibS, encMail, hi, hm, c2, c6, c3, e6, (show i - 1 < b.mails.length by omega)]
        by_cases c4 : intO (mailO b.mails b.mails[i].gid) = (i : Int)
        rotate_left
        · simp (maxSteps := 1000000) [impl_BoxOk.l0, List.range_succ, bs_get, setAt, ibS, encMail, hi, hm, c2, c6, c3, e6, (show i - 1 < b.mails.length by omega), ha, c4]
        rw [c4] at ha
        by_cases c5 : b.mails[i].gid ∈ b.gone
        rotate_left
        · simp [c1, c2, c3, c4, c5] at c
        rw [decide_eq_true c5] at hg
        simp (maxSteps := 1000000) [impl_BoxOk.l0, List.range_succ, bs_get, setAt, ibS, encMail, hi, hm, c2, c6, c3, e6, (show i - 1 < b.mails.length by omega), ha, hg]
      · have c3 := c6
        by_cases c4 : intO (mailO b.mails b.mails[i].gid) = (i : Int)
        rotate_left
        · simp (maxSteps := 1000000) [impl_BoxOk.l0, List.range_succ, bs_get, setAt, ibS, encMail, hi, hm, c2, c6, ha, c4]
        rw [c4] at ha
        by_cases c5 : b.mails[i].gid ∈ b.gone
        rotate_left
        · simp [c1, c2, c3, c4, c5] at c
        rw [decide_eq_true c5] at hg
        simp (maxSteps := 1000000) [impl_BoxOk.l0, List.range_succ, bs_get, setAt, ibS, encMail, hi, hm, c2, c6, ha, hg]
theorem impl_BoxOk.says (h : impl_BoxOk.k M) (b : Box) (hml : b.mails.length ≤ 1048576) (hgl : b.gone.length ≤ 4611686018427387904) (hnl : b.name.length ≤ 4611686018427387904) (hw : ∀ m ∈ b.mails, m.flags.length ≤ 1048576) :
    run M 74 [.a (encBox b)] [] = some (.c (.bool (boxOk b)), []) := by
  obtain ⟨h0, hat, hno, hwi, hig, hin, hso, hgo, hmo⟩ := h
  have h1 := impl_isGid.says hig b.gid
  have h2 := impl_NameOk.says hno b.name hnl
  have h3 := impl_StampOk.says hso b.time b.who
  have h4 := impl_within.inR hwi b.next 1 10000
  have h5 := impl_areGids.says hgo b.gone 40 hgl
  refine run_code (b := impl_BoxOk.m) h0 ⟨b.mails.length + 1, ?_⟩
  obtain ⟨g, hr⟩ := early_loop (f := exC (run M) (b.mails.length + 1) impl_BoxOk.l0) b.mails.length (badMail b) (ibS b) 2 (.bool false) 0 (ibSE b)
    (fun i hi x c => impl_BoxOk.good hat hin hmo b hml hgl hw i hi x c)
    (fun i hi x c => impl_BoxOk.bad hat hin hmo b hml hgl hw i hi x c)
    (fun x => by
      obtain ⟨v, x⟩ := x
      simp only [Prod.exists]
      simp (maxSteps := 1000000) [impl_BoxOk.l0, List.range_succ, bs_get, setAt, ibS, ibSE])
  cases c1 : inR 1 b.gid 9999
  · simp (maxSteps := 1000000) [exB, impl_BoxOk.m, impl_BoxOk.b, List.range_succ, bs_get, setAt, h1, c1, boxOk]
  cases c2 : nameOk b.name
  · simp (maxSteps := 1000000) [exB, impl_BoxOk.m, impl_BoxOk.b, List.range_succ, bs_get, setAt, h1, h2, c1, c2, boxOk]
  cases c3 : stampOk b.time b.who
  · simp (maxSteps := 1000000) [exB, impl_BoxOk.m, impl_BoxOk.b, List.range_succ, bs_get, setAt, h1, h2, h3, c1, c2, c3, boxOk]
  cases c4 : inR 1 b.next 10000
  · simp (maxSteps := 1000000) [exB, impl_BoxOk.m, impl_BoxOk.b, List.range_succ, bs_get, setAt, h1, h2, h3, h4, c1, c2, c3, c4, boxOk]
  by_cases c5 : 10 < b.mails.length
  · have c5' : ¬ b.mails.length ≤ 10 := by omega
    have ci : (10 : Int) < b.mails.length := by omega
    simp (maxSteps := 1000000) [exB, impl_BoxOk.m, impl_BoxOk.b, List.range_succ, bs_get, setAt, h1, h2, h3, h4, c1, c2, c3, c4, c5, c5', ci, boxOk]
  have c5' : b.mails.length ≤ 10 := by omega
  have ci : ¬ (10 : Int) < b.mails.length := by omega
  cases c6 : gidsOk b.gone 40
  · simp (maxSteps := 1000000) [exB, impl_BoxOk.m, impl_BoxOk.b, List.range_succ, bs_get, setAt, h1, h2, h3, h4, h5, c1, c2, c3, c4, c5, ci, c6, boxOk]
  cases q : firstN (badMail b) b.mails.length with
  | none =>
    simp [ibS, ibSE, q, fin1] at hr
    simp (maxSteps := 1000000) [exB, impl_BoxOk.m, impl_BoxOk.b, List.range_succ, bs_get, setAt, h1, h2, h3, h4, h5, c1, c2, c3, c4, c5, c5', ci, c6, hr, boxOk, q]
  | some k =>
    simp [ibS, q, fin1] at hr
    simp (maxSteps := 1000000) [exB, impl_BoxOk.m, impl_BoxOk.b, List.range_succ, bs_get, setAt, h1, h2, h3, h4, h5, c1, c2, c3, c4, c5, c5', ci, c6, hr, boxOk, q]
def sbxS (b : Box) (i : Nat) (x : Nat × Nat) : St := { t := [(1, .c (.ptr 1 x.1 0 0)), (3, .c (I i))], o := [(1, ⟨x.1, 7, true, true, [encBox b]⟩)], n := x.2 }
def sbxSE (b : Box) (x : Nat × Nat) : St := { t := [(1, .c (.ptr 1 x.1 0 0)), (3, .c (I b.mails.length)), (43, .c (.bool false))], o := [(1, ⟨x.1, 7, true, true, [encBox b]⟩)], n := x.2 }
theorem spec_BoxOk.good (hat : spec_MailAt.k M) (hin : spec_l06In.k M) (hmo : spec_MailOk.k M) (b : Box) (hml : b.mails.length ≤ 1048576) (hgl : b.gone.length ≤ 4611686018427387904) (hw : ∀ m ∈ b.mails, m.flags.length ≤ 1048576)
    (i : Nat) (hi : i < b.mails.length) (x : Nat × Nat) (c : badMail b i = false) : ∃ y, exC (run M) (b.mails.length + 1) spec_BoxOk.l0 (sbxS b i x) = some (.normal, sbxS b (i + 1) y) := by
      obtain ⟨v, x⟩ := x
      simp only [Prod.exists]
      have hm := spec_MailOk.says hmo b.mails[i] (hw _ (List.getElem_mem hi))
      have ha := spec_MailAt.says hat b b.mails[i].gid hml
      have hg := spec_l06In.says hin b.gone b.mails[i].gid hgl
      simp only [encMail, encBox] at hm ha hg
      rw [badMail_at hi] at c
      simp at c
      obtain ⟨⟨⟨⟨c1, c2⟩, c3⟩, c4⟩, c5⟩ := c
      have e5 := wrap1 (i := i) (by omega)
      rw [c1] at hm
      rw [c4] at ha
      rw [decide_eq_false c5] at hg
      have c2' : ¬ b.next ≤ b.mails[i].uid := by omega
      by_cases c6 : 0 < i
      · have e6 : IntKind.i64.wrap ((i : Int) - 1) = ((i - 1 : Nat) : Int) := by rw [wrap_i64 (by omega) (by omega)]; omega
        have c3' : ¬ b.mails[i].uid ≤ b.mails[i - 1].uid := by have := c3 c6; omega
        simp (maxSteps := 1000000) [spec_BoxOk.l0, List.range_succ, bs_get, setAt, sbxS, encMail, hi, hm, ha, hg, c2', c6, c3', e5, e6, (show i - 1 < b.mails.length by omega)]
      · simp (maxSteps := 1000000) [spec_BoxOk.l0, List.range_succ, bs_get, setAt, sbxS, encMail, hi, hm, ha, hg, c2', c6, e5]
theorem spec_BoxOk.bad (hat : spec_MailAt.k M) (hin : spec_l06In.k M) (hmo : spec_MailOk.k M) (b : Box) (hml : b.mails.length ≤ 1048576) (hgl : b.gone.length ≤ 4611686018427387904) (hw : ∀ m ∈ b.mails, m.flags.length ≤ 1048576)
    (i : Nat) (hi : i < b.mails.length) (x : Nat × Nat) (c : badMail b i = true) : ∃ k, exC (run M) (b.mails.length + 1) spec_BoxOk.l0 (sbxS b i x) = some (.ret, { t := [(2, .c (.bool false))], o := [], n := k }) := by
      obtain ⟨v, x⟩ := x
      have hm := spec_MailOk.says hmo b.mails[i] (hw _ (List.getElem_mem hi))
      have ha := spec_MailAt.says hat b b.mails[i].gid hml
      have hg := spec_l06In.says hin b.gone b.mails[i].gid hgl
      simp only [encMail, encBox] at hm ha hg
      rw [badMail_at hi] at c
      cases c1 : mailOk b.mails[i]
      · rw [c1] at hm
        simp (maxSteps := 1000000) [spec_BoxOk.l0, List.range_succ, bs_get, setAt, sbxS, encMail, hi, hm]
      rw [c1] at hm
      by_cases c2 : b.next ≤ b.mails[i].uid
      · simp (maxSteps := 1000000) [spec_BoxOk.l0, List.range_succ, bs_get, setAt, sbxS, encMail, hi, hm, c2]
      have c2' : ¬ b.next ≤ b.mails[i].uid := c2
      by_cases c6 : 0 < i
      · have e6 : IntKind.i64.wrap ((i : Int) - 1) = ((i - 1 : Nat) : Int) := by rw [wrap_i64 (by omega) (by omega)]; omega
        by_cases c3 : b.mails[i].uid ≤ b.mails[i - 1].uid
        · simp (maxSteps := 1000000) [spec_BoxOk.l0, List.range_succ, bs_get, setAt, sbxS, encMail, hi, hm, c2, c6, c3, e6, (show i - 1 < b.mails.length by omega)]
        by_cases c5 : b.mails[i].gid ∈ b.gone
        · rw [decide_eq_true c5] at hg
          simp (maxSteps := 1000000) [spec_BoxOk.l0, List.range_succ, bs_get, setAt, sbxS, encMail, hi, hm, c2, c6, c3, e6, (show i - 1 < b.mails.length by omega), hg]
        rw [decide_eq_false c5] at hg
        by_cases c4 : intO (mailO b.mails b.mails[i].gid) = (i : Int)
        · simp [c1, c2, c3, c4, c5] at c
        simp (maxSteps := 1000000) [spec_BoxOk.l0, List.range_succ, bs_get, setAt, sbxS, encMail, hi, hm, c2, c6, c3, e6, (show i - 1 < b.mails.length by omega), ha, hg, c4]
      · have c3 := c6
        by_cases c5 : b.mails[i].gid ∈ b.gone
        · rw [decide_eq_true c5] at hg
          simp (maxSteps := 1000000) [spec_BoxOk.l0, List.range_succ, bs_get, setAt, sbxS, encMail, hi, hm, c2, c6, hg]
        rw [decide_eq_false c5] at hg
        by_cases c4 : intO (mailO b.mails b.mails[i].gid) = (i : Int)
        · simp [c1, c2, c3, c4, c5] at c
        simp (maxSteps := 1000000) [spec_BoxOk.l0, List.range_succ, bs_get, setAt, sbxS, encMail, hi, hm, c2, c6, ha, hg, c4]
theorem spec_BoxOk.says (h : spec_BoxOk.k M) (b : Box) (hml : b.mails.length ≤ 1048576) (hgl : b.gone.length ≤ 4611686018427387904) (hnl : b.name.length ≤ 4611686018427387904) (hw : ∀ m ∈ b.mails, m.flags.length ≤ 1048576) :
    run M 88 [.a (encBox b)] [] = some (.c (.bool (boxOk b)), []) := by
  obtain ⟨h0, hno, hat, hwi, hin, hso, hgo, hmo⟩ := h
  have h1 := spec_l01In.inR hwi b.gid 1 9999
  have h2 := spec_NameOk.says hno b.name hnl
  have h3 := spec_StampOk.says hso b.time b.who
  have h4 := spec_l01In.inR hwi b.next 1 10000
  have h5 := spec_l06Sorted.says hgo b.gone 40 hgl
  refine run_code (b := spec_BoxOk.m) h0 ⟨b.mails.length + 1, ?_⟩
  obtain ⟨g, hr⟩ := early_loop (f := exC (run M) (b.mails.length + 1) spec_BoxOk.l0) b.mails.length (badMail b) (sbxS b) 2 (.bool false) 0 (sbxSE b)
    (fun i hi x c => spec_BoxOk.good hat hin hmo b hml hgl hw i hi x c)
    (fun i hi x c => spec_BoxOk.bad hat hin hmo b hml hgl hw i hi x c)
    (fun x => by
      obtain ⟨v, x⟩ := x
      simp only [Prod.exists]
      simp (maxSteps := 1000000) [spec_BoxOk.l0, List.range_succ, bs_get, setAt, sbxS, sbxSE])
  cases c1 : inR 1 b.gid 9999
  · simp (maxSteps := 1000000) [exB, spec_BoxOk.m, spec_BoxOk.b, List.range_succ, bs_get, setAt, h1, c1, boxOk]
  cases c2 : nameOk b.name
  · simp (maxSteps := 1000000) [exB, spec_BoxOk.m, spec_BoxOk.b, List.range_succ, bs_get, setAt, h1, h2, c1, c2, boxOk]
  cases c3 : stampOk b.time b.who
  · simp (maxSteps := 1000000) [exB, spec_BoxOk.m, spec_BoxOk.b, List.range_succ, bs_get, setAt, h1, h2, h3, c1, c2, c3, boxOk]
  cases c4 : inR 1 b.next 10000
  · simp (maxSteps := 1000000) [exB, spec_BoxOk.m, spec_BoxOk.b, List.range_succ, bs_get, setAt, h1, h2, h3, h4, c1, c2, c3, c4, boxOk]
  by_cases c5 : 10 < b.mails.length
  · have c5' : ¬ b.mails.length ≤ 10 := by omega
    have ci : (10 : Int) < b.mails.length := by omega
    simp (maxSteps := 1000000) [exB, spec_BoxOk.m, spec_BoxOk.b, List.range_succ, bs_get, setAt, h1, h2, h3, h4, c1, c2, c3, c4, c5, c5', ci, boxOk]
  have c5' : b.mails.length ≤ 10 := by omega
  have ci : ¬ (10 : Int) < b.mails.length := by omega
  cases c6 : gidsOk b.gone 40
  · simp (maxSteps := 1000000) [exB, spec_BoxOk.m, spec_BoxOk.b, List.range_succ, bs_get, setAt, h1, h2, h3, h4, h5, c1, c2, c3, c4, c5, ci, c6, boxOk]
  cases q : firstN (badMail b) b.mails.length with
  | none =>
    simp [sbxS, sbxSE, q, fin1] at hr
    simp (maxSteps := 1000000) [exB, spec_BoxOk.m, spec_BoxOk.b, List.range_succ, bs_get, setAt, h1, h2, h3, h4, h5, c1, c2, c3, c4, c5, c5', ci, c6, hr, boxOk, q]
  | some k =>
    simp [sbxS, q, fin1] at hr
    simp (maxSteps := 1000000) [exB, spec_BoxOk.m, spec_BoxOk.b, List.range_succ, bs_get, setAt, h1, h2, h3, h4, h5, c1, c2, c3, c4, c5, c5', ci, c6, hr, boxOk, q]
end Mx

namespace Mx
open Go
variable {M : Nat → Option Body}
structure Store where
  who : Int
  time : Int
  boxes : List Box
  gone : List Int
abbrev boxes (l : List Box) : T := .sl false 7 (l.map encBox)
abbrev encStore (s : Store) : List T := [I s.who, I s.time, boxes s.boxes, ints s.gone]
abbrev encStoreO (s : Store) : List T := [I s.who, I s.time, .sl true 7 (s.boxes.map encBox), .sl true 1 (irow s.gone)]
end Mx

namespace Mx
open Go
variable {M : Nat → Option Body}
/-- a place of a list whose thing is so -/
def atP {α : Type} (p : α → Bool) (l : List α) (i : Nat) : Bool := match l[i]? with
  | some x => p x
  | none => false
theorem atP_at {α : Type} {p : α → Bool} {l : List α} {i : Nat} (h : i < l.length) : atP p l i = p l[i] := by simp [atP, h]
theorem firstF_findIdx {α : Type} (p : α → Bool) (l : List α) : ∀ d i, i + d = l.length → firstF (atP p l) d i = ((l.drop i).findIdx? p).map (· + i)
  | 0, i, h => by rw [firstF, List.drop_eq_nil_of_le (by omega)]; rfl
  | d + 1, i, h => by
    have hi : i < l.length := by omega
    rw [firstF, atP_at hi, List.drop_eq_getElem_cons hi, List.findIdx?_cons]
    split
    · simp
    · rw [firstF_findIdx p l d (i + 1) (by omega), Option.map_map]
      congr 1; funext x; simp only [Function.comp]; omega
theorem firstN_findIdx {α : Type} (p : α → Bool) (l : List α) : firstN (atP p l) l.length = l.findIdx? p := by
  rw [firstN, firstF_findIdx p l _ _ (by omega)]; simp
theorem firstN_any {α : Type} (p : α → Bool) (l : List α) : (firstN (atP p l) l.length).isSome = l.any p := by
  rw [firstN_findIdx, List.findIdx?_isSome]
def named (l : List Box) (s : List UInt8) : Option Nat := l.findIdx? fun b => decide (b.name = s)
def bnS (st : Store) (s : List UInt8) (i : Nat) (x : Nat × Nat) : St := { t := [(1, .c (S s)), (2, .c (.ptr 2 x.1 0 0)), (5, .c (I i))], o := [(2, ⟨x.1, 4, true, true, [encStore st]⟩)], n := x.2 }
/-- a loop that answers the first place found -/
def finI {β : Type} (r : Nat) (e : Nat) (E : β → St) (q : Option Nat) (m : β × Nat) : Out × St := match q with
  | none => (.exit e, E m.1)
  | some k => (.ret, { t := [(r, .c (I k))], o := [], n := m.2 })
theorem index_loop {β γ : Type} (n : Nat) (p : Nat → Bool) {f : St → Option (Out × St)} (S : Nat → β → St) (r : Nat) (e : Nat) (E : γ → St) (z : γ)
    (h1 : ∀ i, i < n → ∀ x, p i = false → ∃ y, f (S i x) = some (.normal, S (i + 1) y)) (h2 : ∀ i, i < n → ∀ x, p i = true → ∃ k, f (S i x) = some (.ret, { t := [(r, .c (I i))], o := [], n := k }))
    (h3 : ∀ x, ∃ y, f (S n x) = some (.exit e, E y)) : ∃ g : β → γ × Nat, ∀ x, loopN f (n + 1) (S 0 x) = some (finI r e E (firstN p n) (g x)) :=
  first_loop n p S (finI r e E) (fun q m => by cases q <;> simp [finI]) h1 (fun i hi x c => by
    obtain ⟨k, hk⟩ := h2 i hi x c
    exact ⟨(z, k), hk⟩) (fun x => by
    obtain ⟨y, hy⟩ := h3 x
    exact ⟨(y, 0), hy⟩)
def bnE (st : Store) (s : List UInt8) (x : Nat × Nat) : St := { t := [(1, .c (S s)), (2, .c (.ptr 2 x.1 0 0)), (5, .c (I st.boxes.length)), (10, .c (.bool false))], o := [(2, ⟨x.1, 4, true, true, [encStore st]⟩)], n := x.2 }
theorem spec_BoxNamed.says (h : spec_BoxNamed.k M) (st : Store) (s : List UInt8) (hb : st.boxes.length ≤ 1048576) : run M 226 [.a (encStore st), .c (S s)] [] = some (.c (I (intO (named st.boxes s))), []) := by
  refine run_code (b := spec_BoxNamed.m) h ⟨st.boxes.length + 1, ?_⟩
  obtain ⟨g, hr⟩ := index_loop (f := exC (run M) (st.boxes.length + 1) spec_BoxNamed.l0) st.boxes.length (atP (fun b => decide (b.name = s)) st.boxes) (bnS st s) 4 0 (bnE st s) (0, 0)
    (fun i hi x c => by
      obtain ⟨v, x⟩ := x
      rw [atP_at hi, decide_eq_false_iff_not] at c
      have e5 := wrap1 (i := i) (by omega)
      simp only [Prod.exists]
      simp (maxSteps := 1000000) [spec_BoxNamed.l0, List.range_succ, bs_get, setAt, bnS, hi, c, encBox, e5])
    (fun i hi x c => by
      obtain ⟨v, x⟩ := x
      rw [atP_at hi, decide_eq_true_eq] at c
      simp (maxSteps := 1000000) [spec_BoxNamed.l0, List.range_succ, bs_get, setAt, bnS, hi, c, encBox])
    (fun x => by
      obtain ⟨v, x⟩ := x
      simp only [Prod.exists]
      simp (maxSteps := 1000000) [spec_BoxNamed.l0, List.range_succ, bs_get, setAt, bnS, bnE])
  rw [firstN_findIdx] at hr
  unfold named
  cases hm : st.boxes.findIdx? fun b => decide (b.name = s) with
  | none =>
    simp [bnS, hm, finI, bnE] at hr
    simp (maxSteps := 1000000) [exB, spec_BoxNamed.m, spec_BoxNamed.b, List.range_succ, bs_get, setAt, hr, intO]
  | some k =>
    simp [bnS, hm, finI] at hr
    simp (maxSteps := 1000000) [exB, spec_BoxNamed.m, spec_BoxNamed.b, List.range_succ, bs_get, setAt, hr, intO]
theorem impl_BoxNamed_1.says (h : impl_BoxNamed_1.k M) (b : Box) (s : List UInt8) : run M 271 [.a (encBox b), .c (.vp [S s] 0)] [] = some (.c (.bool (decide (b.name = s))), []) := by
  refine run_code (b := impl_BoxNamed_1.m) h ⟨0, ?_⟩
  simp (maxSteps := 1000000) [exB, impl_BoxNamed_1.m, impl_BoxNamed_1.b, List.range_succ, bs_get, setAt]
def ixbS (l : List Box) (s : List UInt8) (i : Nat) (x : Nat) : St := { t := [(0, .c (boxes l)), (1, .c (.fn 271 [.vp [S s] 0])), (7, .c (I l.length)), (8, .c (I i))], o := [], n := x }
def ixbE (l : List Box) (s : List UInt8) (x : Nat) : St := { t := [(0, .c (boxes l)), (1, .c (.fn 271 [.vp [S s] 0])), (7, .c (I l.length)), (8, .c (I l.length)), (9, .c (.bool false))], o := [], n := x }
theorem impl_BoxNamed.index (h : slices_IndexFunc_impl_Box_impl_Box.k M) (h2 : impl_BoxNamed_1.k M) (l : List Box) (s : List UInt8) (hl : l.length ≤ 1048576) :
    run M 200 [.c (boxes l), .c (.fn 271 [.vp [S s] 0])] [] = some (.c (I (intO (named l s))), []) := by
  refine run_code (b := slices_IndexFunc_impl_Box_impl_Box.m) h ⟨l.length + 1, ?_⟩
  obtain ⟨g, hr⟩ := index_loop (f := exC (run M) (l.length + 1) slices_IndexFunc_impl_Box_impl_Box.l0) l.length (atP (fun b => decide (b.name = s)) l) (ixbS l s) 4 0 (ixbE l s) 0
    (fun i hi x c => by
      have hm := impl_BoxNamed_1.says h2 l[i] s
      rw [atP_at hi] at c
      rw [c] at hm
      simp only [encBox] at hm
      have e5 := wrap1 (i := i) (by omega)
      simp (maxSteps := 1000000) [slices_IndexFunc_impl_Box_impl_Box.l0, List.range_succ, bs_get, setAt, ixbS, hi, hm, encBox, e5])
    (fun i hi x c => by
      have hm := impl_BoxNamed_1.says h2 l[i] s
      rw [atP_at hi] at c
      rw [c] at hm
      simp only [encBox] at hm
      simp (maxSteps := 1000000) [slices_IndexFunc_impl_Box_impl_Box.l0, List.range_succ, bs_get, setAt, ixbS, hi, hm, encBox])
    (fun x => by simp (maxSteps := 1000000) [slices_IndexFunc_impl_Box_impl_Box.l0, List.range_succ, bs_get, setAt, ixbS, ixbE])
  rw [firstN_findIdx] at hr
  unfold named
  cases hm : l.findIdx? fun b => decide (b.name = s) with
  | none =>
    simp [ixbS, hm, finI, ixbE] at hr
    simp (maxSteps := 1000000) [exB, slices_IndexFunc_impl_Box_impl_Box.m, slices_IndexFunc_impl_Box_impl_Box.b, List.range_succ, bs_get, setAt, hr, intO]
  | some k =>
    simp [ixbS, hm, finI] at hr
    simp (maxSteps := 1000000) [exB, slices_IndexFunc_impl_Box_impl_Box.m, slices_IndexFunc_impl_Box_impl_Box.b, List.range_succ, bs_get, setAt, hr, intO]
theorem impl_BoxNamed.says (h : impl_BoxNamed.k M) (st : Store) (s : List UInt8) (hb : st.boxes.length ≤ 1048576) : run M 228 [.a (encStore st), .c (S s)] [] = some (.c (I (intO (named st.boxes s))), []) := by
  have h1 := impl_BoxNamed.index h.2.1 h.2.2 st.boxes s hb
  refine run_code (b := impl_BoxNamed.m) h.1 ⟨0, ?_⟩
  simp (maxSteps := 1000000) [exB, impl_BoxNamed.m, impl_BoxNamed.b, List.range_succ, bs_get, setAt, h1]
def lateM (time : Int) (m : Mail) : Bool := m.flags.any fun r => decide (time < r.time)
def late (b : Box) (time : Int) : Bool := decide (time < b.time) || b.mails.any (lateM time)
def ltS (b : Box) (time : Int) (i : Nat) (x : Nat × Nat) : St := { t := [(1, .c (I time)), (2, .c (.ptr 2 x.1 0 0)), (10, .c (mails b.mails)), (11, .c (I b.mails.length)), (12, .c (I i))], o := [(2, ⟨x.1, 7, true, true, [encBox b]⟩)], n := x.2 }
def ltE (b : Box) (time : Int) (x : Nat × Nat) : St := { t := [(1, .c (I time)), (2, .c (.ptr 2 x.1 0 0)), (10, .c (mails b.mails)), (11, .c (I b.mails.length)), (12, .c (I b.mails.length)), (13, .c (.bool false))], o := [(2, ⟨x.1, 7, true, true, [encBox b]⟩)], n := x.2 }
def lt1S (b : Box) (time : Int) (i : Nat) (l : List Reg) (k : Nat) (x : Nat × Nat) : St := { t := [(1, .c (I time)), (2, .c (.ptr 2 x.1 0 0)), (10, .c (mails b.mails)), (11, .c (I b.mails.length)), (12, .c (I i)), (17, .c (regs l)), (18, .c (I l.length)), (19, .c (I k))], o := [(2, ⟨x.1, 7, true, true, [encBox b]⟩)], n := x.2 }
def lt1E (b : Box) (time : Int) (i : Nat) (l : List Reg) (x : Nat × Nat) : St := { t := [(1, .c (I time)), (2, .c (.ptr 2 x.1 0 0)), (10, .c (mails b.mails)), (11, .c (I b.mails.length)), (12, .c (I i)), (17, .c (regs l)), (18, .c (I l.length)), (19, .c (I l.length)), (20, .c (.bool false))], o := [(2, ⟨x.1, 7, true, true, [encBox b]⟩)], n := x.2 }
theorem any_none {α : Type} {p : α → Bool} {l : List α} (h : l.any p = false) : firstN (atP p l) l.length = none := by
  have := firstN_any p l
  rw [h] at this; simpa using this
theorem any_some {α : Type} {p : α → Bool} {l : List α} (h : l.any p = true) : ∃ k, firstN (atP p l) l.length = some k := by
  have := firstN_any p l
  rw [h] at this; exact Option.isSome_iff_exists.1 this
theorem impl_isLate.inner (b : Box) (time : Int) (i K : Nat) (l : List Reg) (hl : l.length ≤ 1048576) : ∃ g : Nat × Nat → (Nat × Nat) × Nat, ∀ x, loopN (exC (run M) K impl_isLate.l1) (l.length + 1) (lt1S b time i l 0 x) = some (fin1 4 (.bool true) 2 (lt1E b time i l) (firstN (atP (fun r => decide (time < r.time)) l) l.length) (g x)) :=
  early_loop l.length (atP (fun r => decide (time < r.time)) l) (lt1S b time i l) 4 (.bool true) 2 (lt1E b time i l)
    (fun i hi x c => by
      obtain ⟨v, x⟩ := x
      rw [atP_at hi, decide_eq_false_iff_not] at c
      have e5 := wrap1 (i := i) (by omega)
      simp only [Prod.exists]
      simp (maxSteps := 1000000) [impl_isLate.l1, List.range_succ, bs_get, setAt, lt1S, hi, c, encReg, e5])
    (fun i hi x c => by
      obtain ⟨v, x⟩ := x
      rw [atP_at hi, decide_eq_true_eq] at c
      simp (maxSteps := 1000000) [impl_isLate.l1, List.range_succ, bs_get, setAt, lt1S, hi, c, encReg])
    (fun x => by
      obtain ⟨v, x⟩ := x
      simp only [Prod.exists]
      simp (maxSteps := 1000000) [impl_isLate.l1, List.range_succ, bs_get, setAt, lt1S, lt1E])
theorem impl_isLate.says (h : impl_isLate.k M) (b : Box) (time : Int) (hb : b.mails.length ≤ 1048576) (hf : ∀ m ∈ b.mails, m.flags.length ≤ 1048576) : run M 229 [.a (encBox b), .c (I time)] [] = some (.c (.bool (late b time)), []) := by
  refine run_code (b := impl_isLate.m) h ⟨b.mails.length + 1048577, ?_⟩
  obtain ⟨K, hK⟩ : ∃ K, b.mails.length + 1048577 = K := ⟨_, rfl⟩
  rw [hK]
  obtain ⟨g, hr⟩ := early_loop (f := exC (run M) K impl_isLate.l0) b.mails.length (atP (lateM time) b.mails) (ltS b time) 4 (.bool true) 0 (ltE b time)
    (fun i hi x c => by
      obtain ⟨v, x⟩ := x
      rw [atP_at hi, lateM] at c
      have e5 := wrap1 (i := i) (by omega)
      have hfl := hf _ (List.getElem_mem hi)
      obtain ⟨g, hr⟩ := impl_isLate.inner (M := M) b time i K b.mails[i].flags hfl
      rw [any_none c] at hr
      have hr2 := fun x => loopN_le (hr x) (show b.mails[i].flags.length + 1 ≤ K by omega)
      simp [lt1S, lt1E, fin1] at hr2
      simp only [Prod.exists]
      simp (maxSteps := 1000000) [impl_isLate.l0, List.range_succ, bs_get, setAt, ltS, hi, encMail, e5, hr2])
    (fun i hi x c => by
      obtain ⟨v, x⟩ := x
      rw [atP_at hi, lateM] at c
      have hfl := hf _ (List.getElem_mem hi)
      obtain ⟨g, hr⟩ := impl_isLate.inner (M := M) b time i K b.mails[i].flags hfl
      obtain ⟨k, hk⟩ := any_some c
      rw [hk] at hr
      have hr2 := fun x => loopN_le (hr x) (show b.mails[i].flags.length + 1 ≤ K by omega)
      simp [lt1S, fin1] at hr2
      simp (maxSteps := 1000000) [impl_isLate.l0, List.range_succ, bs_get, setAt, ltS, hi, encMail, hr2])
    (fun x => by
      obtain ⟨v, x⟩ := x
      simp only [Prod.exists]
      simp (maxSteps := 1000000) [impl_isLate.l0, List.range_succ, bs_get, setAt, ltS, ltE])
  have hr2 := fun x => loopN_le (hr x) (show b.mails.length + 1 ≤ K by omega)
  unfold late
  cases c : b.mails.any (lateM time)
  · rw [any_none c] at hr2
    simp [ltS, ltE, fin1] at hr2
    simp (maxSteps := 1000000) [exB, impl_isLate.m, impl_isLate.b, List.range_succ, bs_get, setAt, hr2]
  · obtain ⟨k, hk⟩ := any_some c
    rw [hk] at hr2
    simp [ltS, fin1] at hr2
    simp (maxSteps := 1000000) [exB, impl_isLate.m, impl_isLate.b, List.range_succ, bs_get, setAt, hr2]
def st0S (b : Box) (time : Int) (i : Nat) (x : Nat × Nat) : St := { t := [(1, .c (I time)), (2, .c (.ptr 2 x.1 0 0)), (5, .c (I i))], o := [(2, ⟨x.1, 7, true, true, [encBox b]⟩)], n := x.2 }
def st0E (b : Box) (time : Int) (x : Nat × Nat) : St := { t := [(1, .c (I time)), (2, .c (.ptr 2 x.1 0 0)), (5, .c (I b.mails.length)), (16, .c (.bool false))], o := [(2, ⟨x.1, 7, true, true, [encBox b]⟩)], n := x.2 }
def st1S (b : Box) (time : Int) (i : Nat) (k : Nat) (x : Nat × Nat) : St := { t := [(1, .c (I time)), (2, .c (.ptr 2 x.1 0 0)), (5, .c (I i)), (6, .c (I k))], o := [(2, ⟨x.1, 7, true, true, [encBox b]⟩)], n := x.2 }
def st1E (b : Box) (time : Int) (i : Nat) (k : Nat) (x : Nat × Nat) : St := { t := [(1, .c (I time)), (2, .c (.ptr 2 x.1 0 0)), (5, .c (I i)), (6, .c (I k)), (27, .c (.bool false))], o := [(2, ⟨x.1, 7, true, true, [encBox b]⟩)], n := x.2 }
theorem spec_l07Times.inner (b : Box) (time : Int) (i K : Nat) (hi : i < b.mails.length) (hl : b.mails[i].flags.length ≤ 1048576) : ∃ g : Nat × Nat → (Nat × Nat) × Nat, ∀ x, loopN (exC (run M) K spec_l07Times.l1) (b.mails[i].flags.length + 1) (st1S b time i 0 x) = some (fin1 4 (.bool false) 2 (st1E b time i b.mails[i].flags.length) (firstN (atP (fun r => decide (time < r.time)) b.mails[i].flags) b.mails[i].flags.length) (g x)) :=
  early_loop b.mails[i].flags.length (atP (fun r => decide (time < r.time)) b.mails[i].flags) (st1S b time i) 4 (.bool false) 2 (st1E b time i b.mails[i].flags.length)
    (fun k hk x c => by
      obtain ⟨v, x⟩ := x
      rw [atP_at hk, decide_eq_false_iff_not] at c
      have e5 := wrap1 (i := k) (by omega)
      simp only [Prod.exists]
      simp (maxSteps := 1000000) [spec_l07Times.l1, List.range_succ, bs_get, setAt, st1S, hi, hk, c, encReg, encMail, e5])
    (fun k hk x c => by
      obtain ⟨v, x⟩ := x
      rw [atP_at hk, decide_eq_true_eq] at c
      simp (maxSteps := 1000000) [spec_l07Times.l1, List.range_succ, bs_get, setAt, st1S, hi, hk, c, encReg, encMail])
    (fun x => by
      obtain ⟨v, x⟩ := x
      simp only [Prod.exists]
      simp (maxSteps := 1000000) [spec_l07Times.l1, List.range_succ, bs_get, setAt, st1S, st1E, hi, encMail])
theorem spec_l07Times.says (h : spec_l07Times.k M) (b : Box) (time : Int) (hb : b.mails.length ≤ 1048576) (hf : ∀ m ∈ b.mails, m.flags.length ≤ 1048576) : run M 227 [.a (encBox b), .c (I time)] [] = some (.c (.bool (!late b time)), []) := by
  refine run_code (b := spec_l07Times.m) h ⟨b.mails.length + 1048577, ?_⟩
  obtain ⟨K, hK⟩ : ∃ K, b.mails.length + 1048577 = K := ⟨_, rfl⟩
  rw [hK]
  obtain ⟨g, hr⟩ := early_loop (f := exC (run M) K spec_l07Times.l0) b.mails.length (atP (lateM time) b.mails) (st0S b time) 4 (.bool false) 0 (st0E b time)
    (fun i hi x c => by
      obtain ⟨v, x⟩ := x
      rw [atP_at hi, lateM] at c
      have e5 := wrap1 (i := i) (by omega)
      have hfl := hf _ (List.getElem_mem hi)
      obtain ⟨g, hr⟩ := spec_l07Times.inner (M := M) b time i K hi hfl
      rw [any_none c] at hr
      have hr2 := fun x => loopN_le (hr x) (show b.mails[i].flags.length + 1 ≤ K by omega)
      simp [st1S, st1E, fin1] at hr2
      simp only [Prod.exists]
      simp (maxSteps := 1000000) [spec_l07Times.l0, List.range_succ, bs_get, setAt, st0S, hi, encMail, e5, hr2])
    (fun i hi x c => by
      obtain ⟨v, x⟩ := x
      rw [atP_at hi, lateM] at c
      have hfl := hf _ (List.getElem_mem hi)
      obtain ⟨g, hr⟩ := spec_l07Times.inner (M := M) b time i K hi hfl
      obtain ⟨k, hk⟩ := any_some c
      rw [hk] at hr
      have hr2 := fun x => loopN_le (hr x) (show b.mails[i].flags.length + 1 ≤ K by omega)
      simp [st1S, fin1] at hr2
      simp (maxSteps := 1000000) [spec_l07Times.l0, List.range_succ, bs_get, setAt, st0S, hi, encMail, hr2])
    (fun x => by
      obtain ⟨v, x⟩ := x
      simp only [Prod.exists]
      simp (maxSteps := 1000000) [spec_l07Times.l0, List.range_succ, bs_get, setAt, st0S, st0E])
  have hr2 := fun x => loopN_le (hr x) (show b.mails.length + 1 ≤ K by omega)
  unfold late
  by_cases c0 : time < b.time
  · simp (maxSteps := 1000000) [exB, spec_l07Times.m, spec_l07Times.b, List.range_succ, bs_get, setAt, c0]
  cases c : b.mails.any (lateM time)
  · rw [any_none c] at hr2
    simp [st0S, st0E, fin1] at hr2
    simp (maxSteps := 1000000) [exB, spec_l07Times.m, spec_l07Times.b, List.range_succ, bs_get, setAt, hr2, c0]
  · obtain ⟨k, hk⟩ := any_some c
    rw [hk] at hr2
    simp [st0S, fin1] at hr2
    simp (maxSteps := 1000000) [exB, spec_l07Times.m, spec_l07Times.b, List.range_succ, bs_get, setAt, hr2, c0]
end Mx

namespace Mx
open Go
variable {M : Nat → Option Body}
def gidsOf (b : Box) : List Int := b.mails.map (·.gid)
def seenAt (s : Store) (i : Nat) : List Int := (s.boxes.take i).flatMap gidsOf
theorem seenAt_succ {s : Store} {i : Nat} (h : i < s.boxes.length) : seenAt s (i + 1) = seenAt s i ++ gidsOf s.boxes[i] := by
  rw [seenAt, seenAt, List.take_succ_eq_append_getElem h, List.flatMap_append]; simp
def dupAt (seen l : List Int) (k : Nat) : Bool := match l[k]? with
  | some g => decide (g ∈ seen ++ l.take k)
  | none => false
theorem dupAt_at {seen l : List Int} {k : Nat} (h : k < l.length) : dupAt seen l k = decide (l[k] ∈ seen ++ l.take k) := by simp [dupAt, h]
def dups (seen l : List Int) : Bool := (firstN (dupAt seen l) l.length).isSome
def badBox (s : Store) (i : Nat) : Bool := match s.boxes[i]? with
  | some b => !boxOk b || (decide (0 < i) && match s.boxes[i - 1]? with | some p => decide (b.gid ≤ p.gid) | none => false) || !decide (intO (named s.boxes b.name) = (i : Int)) || decide (b.gid ∈ s.gone) || late b s.time
  | none => false
theorem badBox_at {s : Store} {i : Nat} (h : i < s.boxes.length) : badBox s i = (!boxOk s.boxes[i] || (decide (0 < i) && decide (s.boxes[i].gid ≤ s.boxes[i - 1].gid)) || !decide (intO (named s.boxes s.boxes[i].name) = (i : Int)) ||
    decide (s.boxes[i].gid ∈ s.gone) || late s.boxes[i] s.time) := by simp [badBox, h, (show i - 1 < s.boxes.length by omega)]
def badAt (s : Store) (i : Nat) : Bool := badBox s i || match s.boxes[i]? with
  | some b => dups (seenAt s i) (gidsOf b)
  | none => false
theorem badAt_at {s : Store} {i : Nat} (h : i < s.boxes.length) : badAt s i = (badBox s i || dups (seenAt s i) (gidsOf s.boxes[i])) := by simp [badAt, h]
def storeOk (s : Store) : Bool := inR 1 s.who 2 && inR 0 s.time 100000 && decide (s.boxes.length ≤ 5) && gidsOk s.gone 20 && (firstN (badAt s) s.boxes.length).isNone
/-- small enough to be walked -/
structure BoxIn (b : Box) : Prop where
  m : b.mails.length ≤ 1048576
  g : b.gone.length ≤ 1048576
  n : b.name.length ≤ 1048576
  f : ∀ m ∈ b.mails, m.flags.length ≤ 1048576
structure StoreIn (s : Store) : Prop where
  b : s.boxes.length ≤ 1048576
  g : s.gone.length ≤ 1048576
  i : ∀ b ∈ s.boxes, BoxIn b
  s : (s.boxes.flatMap gidsOf).length ≤ 1048576
theorem seenAt_le {s : Store} (h : StoreIn s) (i : Nat) : (seenAt s i).length ≤ 1048576 := by
  refine Nat.le_trans ?_ h.s
  conv => rhs; rw [← List.take_append_drop i s.boxes]
  rw [List.flatMap_append, List.length_append]
  exact Nat.le_add_right _ _
def soO (s : Store) (seen : List Int) (x : Nat × Nat × Nat) : List (Nat × Ob) := [(1, ⟨x.1, 4, true, true, [encStore s]⟩), (30, ⟨x.2.1, 1, true, false, irow seen⟩)]
def so0S (s : Store) (i : Nat) (x : Nat × Nat × Nat) : St := { t := [(1, .c (.ptr 1 x.1 0 0)), (3, .c (.row 30 x.2.1 0 (seenAt s i).length)), (32, .c (boxes s.boxes)), (33, .c (I s.boxes.length)), (34, .c (I i))], o := soO s (seenAt s i) x, n := x.2.2 }
def so0E (s : Store) (x : Nat × Nat × Nat) : St := { t := [(1, .c (.ptr 1 x.1 0 0)), (3, .c (.row 30 x.2.1 0 (seenAt s s.boxes.length).length)), (32, .c (boxes s.boxes)), (33, .c (I s.boxes.length)), (34, .c (I s.boxes.length)), (35, .c (.bool false))], o := soO s (seenAt s s.boxes.length) x, n := x.2.2 }
def so1S (s : Store) (b : Box) (seen : List Int) (i k : Nat) (x : Nat × Nat × Nat) : St := { t := [(1, .c (.ptr 1 x.1 0 0)), (3, .c (.row 30 x.2.1 0 (seen.length + k))), (32, .c (boxes s.boxes)), (33, .c (I s.boxes.length)), (34, .c (I i)), (80, .c (mails b.mails)), (81, .c (I b.mails.length)), (82, .c (I k))], o := soO s (seen ++ (gidsOf b).take k) x, n := x.2.2 }
def so1E (s : Store) (b : Box) (seen : List Int) (i : Nat) (x : Nat × Nat × Nat) : St := { t := [(1, .c (.ptr 1 x.1 0 0)), (3, .c (.row 30 x.2.1 0 (seen.length + b.mails.length))), (32, .c (boxes s.boxes)), (33, .c (I s.boxes.length)), (34, .c (I i)), (80, .c (mails b.mails)), (81, .c (I b.mails.length)), (82, .c (I b.mails.length)), (83, .c (.bool false))], o := soO s (seen ++ gidsOf b) x, n := x.2.2 }
theorem gidsOf_len (b : Box) : (gidsOf b).length = b.mails.length := by simp [gidsOf]
theorem gidsOf_at (b : Box) (k : Nat) (h : k < (gidsOf b).length) : (gidsOf b)[k] = (b.mails[k]'(by simpa [gidsOf] using h)).gid := by simp [gidsOf]
theorem impl_StoreOk.inner (hin : slices_Contains_int_int.k M) (s : Store) (b : Box) (seen : List Int) (i K : Nat) (hl : b.mails.length ≤ 1048576) (hs : seen.length ≤ 1048576) :
    ∃ g : Nat × Nat × Nat → (Nat × Nat × Nat) × Nat, ∀ x, loopN (exC (run M) K impl_StoreOk.l1) (b.mails.length + 1) (so1S s b seen i 0 x) = some (fin1 2 (.bool false) 2 (so1E s b seen i) (firstN (dupAt seen (gidsOf b)) b.mails.length) (g x)) :=
  early_loop b.mails.length (dupAt seen (gidsOf b)) (so1S s b seen i) 2 (.bool false) 2 (so1E s b seen i)
    (fun k hk x c => by
      obtain ⟨v, w, x⟩ := x
      have hk' : k < (gidsOf b).length := by rw [gidsOf_len]; exact hk
      rw [dupAt_at hk'] at c
      have hlen : (seen ++ (gidsOf b).take k).length = seen.length + k := by rw [List.length_append, List.length_take, Nat.min_eq_left (by omega)]
      have h1 := slices_Contains_int_int.says hin (seen ++ (gidsOf b).take k) (gidsOf b)[k] (by rw [hlen]; omega)
      rw [c] at h1
      rw [gidsOf_at] at h1
      simp only [ints] at h1
      have e5 := wrap1 (i := k) (by omega)
      have e6 : seen.length + (k + 1) ≤ 4294967296 := by omega
      have e7 : seen ++ (gidsOf b).take (k + 1) = (seen ++ (gidsOf b).take k) ++ [b.mails[k].gid] := by rw [List.take_succ_eq_append_getElem hk', gidsOf_at, List.append_assoc]
      have e8 : irow ((seen ++ (gidsOf b).take k) ++ [b.mails[k].gid]) = irow (seen ++ (gidsOf b).take k) ++ [[I b.mails[k].gid]] := by simp [irow]
      have e9 : (irow (seen ++ (gidsOf b).take k)).length = seen.length + k := by simp only [irow, List.length_map]; exact hlen
      simp only [Prod.exists, so1S, soO, e7, e8]
      generalize irow (seen ++ (gidsOf b).take k) = rr at *
      simp (maxSteps := 1000000) [impl_StoreOk.l1, List.range_succ, bs_get, setAt, hk, h1, encMail, e5, e6, e9, List.take_of_length_le, Nat.add_assoc])
    (fun k hk x c => by
      obtain ⟨v, w, x⟩ := x
      have hk' : k < (gidsOf b).length := by rw [gidsOf_len]; exact hk
      rw [dupAt_at hk'] at c
      have hlen : (seen ++ (gidsOf b).take k).length = seen.length + k := by rw [List.length_append, List.length_take, Nat.min_eq_left (by omega)]
      have h1 := slices_Contains_int_int.says hin (seen ++ (gidsOf b).take k) (gidsOf b)[k] (by rw [hlen]; omega)
      rw [c] at h1
      rw [gidsOf_at] at h1
      simp only [ints] at h1
      have e9 : (irow (seen ++ (gidsOf b).take k)).length = seen.length + k := by simp only [irow, List.length_map]; exact hlen
      simp only [so1S, soO]
      generalize irow (seen ++ (gidsOf b).take k) = rr at *
      simp (maxSteps := 1000000) [impl_StoreOk.l1, List.range_succ, bs_get, setAt, hk, h1, encMail, e9, List.take_of_length_le])
    (fun x => by
      obtain ⟨v, w, x⟩ := x
      have e7 : (gidsOf b).take b.mails.length = gidsOf b := List.take_of_length_le (by rw [gidsOf_len]; omega)
      simp only [Prod.exists, so1S, so1E, soO, e7]
      simp (maxSteps := 1000000) [impl_StoreOk.l1, List.range_succ, bs_get, setAt])
theorem BoxIn.ok {b : Box} (h : BoxIn b) : b.mails.length ≤ 1048576 ∧ b.gone.length ≤ 4611686018427387904 ∧ b.name.length ≤ 4611686018427387904 ∧ ∀ m ∈ b.mails, m.flags.length ≤ 1048576 := ⟨h.m, by have := h.g; omega, by have := h.n; omega, h.f⟩
structure impl_StoreOk.ks (M : Nat → Option Body) : Prop where
  box : impl_BoxOk.k M
  con : slices_Contains_int_int.k M
  nam : impl_BoxNamed.k M
  lat : impl_isLate.k M
theorem impl_StoreOk.good (h : impl_StoreOk.ks M) (s : Store) (hs : StoreIn s) (K : Nat) (hK : 2000000 ≤ K) (i : Nat) (hi : i < s.boxes.length) (x : Nat × Nat × Nat) (c : badAt s i = false) :
    ∃ y, exC (run M) K impl_StoreOk.l0 (so0S s i x) = some (.normal, so0S s (i + 1) y) := by
  have hb := hs.i _ (List.getElem_mem hi)
  have h1 := impl_BoxOk.says h.box s.boxes[i] hb.ok.1 hb.ok.2.1 hb.ok.2.2.1 hb.ok.2.2.2
  have h2 := impl_BoxNamed.says h.nam s s.boxes[i].name hs.b
  have h3 := slices_Contains_int_int.says h.con s.gone s.boxes[i].gid (by have := hs.g; omega)
  have h4 := impl_isLate.says h.lat s.boxes[i] s.time hb.m hb.f
  have hsl := seenAt_le hs i
  obtain ⟨g, hr⟩ := impl_StoreOk.inner h.con s s.boxes[i] (seenAt s i) i K hb.m hsl
  have hr2 := fun x => loopN_le (hr x) (show s.boxes[i].mails.length + 1 ≤ K by have := hb.m; omega)
  rw [badAt_at hi, badBox_at hi] at c
  simp only [Bool.or_eq_false_iff, Bool.and_eq_false_iff, Bool.not_eq_false', decide_eq_false_iff_not, decide_eq_true_eq] at c
  obtain ⟨⟨⟨⟨⟨c1, c2⟩, c3⟩, c4⟩, c5⟩, c6⟩ := c
  have e5 : IntKind.i64.wrap ((i : Int) + 1) = (i : Int) + 1 := wrap_i64 (by have := hs.b; omega) (by have := hs.b; omega)
  rw [c1] at h1
  rw [c3] at h2
  rw [decide_eq_false c4] at h3
  rw [c5] at h4
  have q : firstN (dupAt (seenAt s i) (gidsOf s.boxes[i])) s.boxes[i].mails.length = none := by
    unfold dups at c6; rw [gidsOf_len] at c6; simpa using c6
  rw [q] at hr2
  obtain ⟨v, w, x⟩ := x
  simp only [encBox, encStore] at h1 h2 h4
  simp only [ints] at h3
  have hz : irow (seenAt s i ++ gidsOf s.boxes[i]) = irow (seenAt s i) ++ irow (gidsOf s.boxes[i]) := by simp [irow]
  simp [so1S, so1E, soO, fin1] at hr2
  simp only [so0S, soO, seenAt_succ hi, Prod.exists]
  have hgl := gidsOf_len s.boxes[i]
  by_cases c7 : 0 < i
  · have e6 : IntKind.i64.wrap ((i : Int) - 1) = ((i - 1 : Nat) : Int) := by rw [wrap_i64 (by have := hs.b; omega) (by have := hs.b; omega)]; omega
    have c2' : ¬ s.boxes[i].gid ≤ s.boxes[i - 1].gid := by
      rcases c2 with c2 | c2
      · exact absurd c7 c2
      · exact c2
    simp (maxSteps := 1000000) [impl_StoreOk.l0, List.range_succ, bs_get, setAt, hi, h1, h2, h3, h4, c7, c2', e5, e6, hr2, hgl, encBox, (show i - 1 < s.boxes.length by omega)]
  · simp (maxSteps := 1000000) [impl_StoreOk.l0, List.range_succ, bs_get, setAt, hi, h1, h2, h3, h4, c7, e5, hr2, hgl, encBox]
theorem impl_StoreOk.bad (h : impl_StoreOk.ks M) (s : Store) (hs : StoreIn s) (K : Nat) (hK : 2000000 ≤ K) (i : Nat) (hi : i < s.boxes.length) (x : Nat × Nat × Nat) (c : badAt s i = true) :
    ∃ k, exC (run M) K impl_StoreOk.l0 (so0S s i x) = some (.ret, { t := [(2, .c (.bool false))], o := [], n := k }) := by
  have hb := hs.i _ (List.getElem_mem hi)
  have h1 := impl_BoxOk.says h.box s.boxes[i] hb.ok.1 hb.ok.2.1 hb.ok.2.2.1 hb.ok.2.2.2
  have h2 := impl_BoxNamed.says h.nam s s.boxes[i].name hs.b
  have h3 := slices_Contains_int_int.says h.con s.gone s.boxes[i].gid (by have := hs.g; omega)
  have h4 := impl_isLate.says h.lat s.boxes[i] s.time hb.m hb.f
  have hsl := seenAt_le hs i
  obtain ⟨g, hr⟩ := impl_StoreOk.inner h.con s s.boxes[i] (seenAt s i) i K hb.m hsl
  have hr2 := fun x => loopN_le (hr x) (show s.boxes[i].mails.length + 1 ≤ K by have := hb.m; omega)
  rw [badAt_at hi, badBox_at hi] at c
  obtain ⟨v, w, x⟩ := x
  simp only [encBox, encStore] at h1 h2 h4
  simp only [ints] at h3
  simp only [so0S, soO]
  cases c1 : boxOk s.boxes[i]
  · rw [c1] at h1
    simp (maxSteps := 1000000) [impl_StoreOk.l0, List.range_succ, bs_get, setAt, hi, h1, encBox]
  rw [c1] at h1
  have tail : ∀ (hp : ¬ 0 < i ∨ ¬ s.boxes[i].gid ≤ s.boxes[i - 1].gid), ∃ k, exC (run M) K impl_StoreOk.l0 { t := [(1, .c (.ptr 1 v 0 0)), (3, .c (.row 30 w 0 (seenAt s i).length)), (32, .c (boxes s.boxes)), (33, .c (I s.boxes.length)), (34, .c (I i))], o := [(1, ⟨v, 4, true, true, [encStore s]⟩), (30, ⟨w, 1, true, false, irow (seenAt s i)⟩)], n := x } = some (.ret, { t := [(2, .c (.bool false))], o := [], n := k }) := by
    intro hp
    have hpp : (decide (0 < i) && decide (s.boxes[i].gid ≤ s.boxes[i - 1].gid)) = false := by
      rcases hp with hp | hp <;> simp [hp]
    have key : (∀ (Q : Prop), (0 < i → ¬ s.boxes[i].gid ≤ s.boxes[i - 1].gid → Q) → (¬ 0 < i → Q) → Q) := by
      intro Q q1 q2
      by_cases c7 : 0 < i
      · rcases hp with hp | hp
        · exact absurd c7 hp
        · exact q1 c7 hp
      · exact q2 c7
    have e6 : 0 < i → IntKind.i64.wrap ((i : Int) - 1) = ((i - 1 : Nat) : Int) := fun c7 => by rw [wrap_i64 (by have := hs.b; omega) (by have := hs.b; omega)]; omega
    have hi1 : i - 1 < s.boxes.length := by omega
    by_cases c3 : intO (named s.boxes s.boxes[i].name) = (i : Int)
    rotate_left
    · exact key _ (fun c7 c2 => by simp (maxSteps := 1000000) [impl_StoreOk.l0, List.range_succ, bs_get, setAt, hi, h1, h2, c7, c2, c3, e6 c7, encBox, hi1]) (fun c7 => by simp (maxSteps := 1000000) [impl_StoreOk.l0, List.range_succ, bs_get, setAt, hi, h1, h2, c7, c3, encBox])
    rw [c3] at h2
    by_cases c4 : s.boxes[i].gid ∈ s.gone
    · rw [decide_eq_true c4] at h3
      exact key _ (fun c7 c2 => by simp (maxSteps := 1000000) [impl_StoreOk.l0, List.range_succ, bs_get, setAt, hi, h1, h2, h3, c7, c2, c3, e6 c7, encBox, hi1]) (fun c7 => by simp (maxSteps := 1000000) [impl_StoreOk.l0, List.range_succ, bs_get, setAt, hi, h1, h2, h3, c7, c3, encBox])
    rw [decide_eq_false c4] at h3
    cases c5 : late s.boxes[i] s.time
    rotate_left
    · rw [c5] at h4
      exact key _ (fun c7 c2 => by simp (maxSteps := 1000000) [impl_StoreOk.l0, List.range_succ, bs_get, setAt, hi, h1, h2, h3, h4, c7, c2, c3, e6 c7, encBox, hi1]) (fun c7 => by simp (maxSteps := 1000000) [impl_StoreOk.l0, List.range_succ, bs_get, setAt, hi, h1, h2, h3, h4, c7, c3, encBox])
    rw [c5] at h4
    have c6 : dups (seenAt s i) (gidsOf s.boxes[i]) = true := by
      rw [c1, hpp, c3, c5] at c
      simpa [c4] using c
    obtain ⟨k, hk⟩ : ∃ k, firstN (dupAt (seenAt s i) (gidsOf s.boxes[i])) s.boxes[i].mails.length = some k := by
      unfold dups at c6; rw [gidsOf_len] at c6; exact Option.isSome_iff_exists.1 c6
    rw [hk] at hr2
    simp [so1S, soO, fin1] at hr2
    have hgl := gidsOf_len s.boxes[i]
    exact key _ (fun c7 c2 => by simp (maxSteps := 1000000) [impl_StoreOk.l0, List.range_succ, bs_get, setAt, hi, h1, h2, h3, h4, c7, c2, c3, e6 c7, hr2, encBox, hi1]) (fun c7 => by simp (maxSteps := 1000000) [impl_StoreOk.l0, List.range_succ, bs_get, setAt, hi, h1, h2, h3, h4, c7, c3, hr2, encBox])
  by_cases c7 : 0 < i
  · by_cases c2 : s.boxes[i].gid ≤ s.boxes[i - 1].gid
    · have e6 : IntKind.i64.wrap ((i : Int) - 1) = ((i - 1 : Nat) : Int) := by rw [wrap_i64 (by have := hs.b; omega) (by have := hs.b; omega)]; omega
      simp (maxSteps := 1000000) [impl_StoreOk.l0, List.range_succ, bs_get, setAt, hi, h1, c7, c2, e6, encBox, (show i - 1 < s.boxes.length by omega)]
    · exact tail (.inr c2)
  · exact tail (.inl c7)
theorem impl_StoreOk.says (h : impl_StoreOk.k M) (s : Store) (hs : StoreIn s) : run M 150 [.a (encStore s)] [] = some (.c (.bool (storeOk s)), []) := by
  obtain ⟨h0, k1, k2, k3, k4, k5, k6⟩ := h
  have h1 := impl_within.inR k2 s.who 1 2
  have h2 := impl_within.inR k2 s.time 0 100000
  have h3 := impl_areGids.says k4 s.gone 20 (by have := hs.g; omega)
  refine run_code (b := impl_StoreOk.m) h0 ⟨4000000, ?_⟩
  obtain ⟨K, hK⟩ : ∃ K, 4000000 = K := ⟨_, rfl⟩
  rw [hK]
  obtain ⟨g, hr⟩ := early_loop (f := exC (run M) K impl_StoreOk.l0) s.boxes.length (badAt s) (so0S s) 2 (.bool false) 0 (so0E s)
    (fun i hi x c => impl_StoreOk.good ⟨k1, k3, k5, k6⟩ s hs K (by omega) i hi x c)
    (fun i hi x c => impl_StoreOk.bad ⟨k1, k3, k5, k6⟩ s hs K (by omega) i hi x c)
    (fun x => by
      obtain ⟨v, w, x⟩ := x
      simp only [Prod.exists]
      simp (maxSteps := 1000000) [impl_StoreOk.l0, List.range_succ, bs_get, setAt, so0S, so0E, soO])
  have hr2 := fun x => loopN_le (hr x) (show s.boxes.length + 1 ≤ K by have := hs.b; omega)
  cases c1 : inR 1 s.who 2
  · simp (maxSteps := 1000000) [exB, impl_StoreOk.m, impl_StoreOk.b, List.range_succ, bs_get, setAt, h1, c1, storeOk]
  cases c2 : inR 0 s.time 100000
  · simp (maxSteps := 1000000) [exB, impl_StoreOk.m, impl_StoreOk.b, List.range_succ, bs_get, setAt, h1, h2, c1, c2, storeOk]
  by_cases c3 : 5 < s.boxes.length
  · have c3' : ¬ s.boxes.length ≤ 5 := by omega
    have ci : (5 : Int) < s.boxes.length := by omega
    simp (maxSteps := 1000000) [exB, impl_StoreOk.m, impl_StoreOk.b, List.range_succ, bs_get, setAt, h1, h2, c1, c2, c3', ci, storeOk]
  have c3' : s.boxes.length ≤ 5 := by omega
  have ci : ¬ (5 : Int) < s.boxes.length := by omega
  cases c4 : gidsOk s.gone 20
  · simp (maxSteps := 1000000) [exB, impl_StoreOk.m, impl_StoreOk.b, List.range_succ, bs_get, setAt, h1, h2, h3, c1, c2, ci, c4, storeOk]
  have hz : seenAt s 0 = [] := by simp [seenAt]
  cases q : firstN (badAt s) s.boxes.length with
  | none =>
    simp [so0S, so0E, soO, q, fin1, hz, irow] at hr2
    simp (maxSteps := 1000000) [exB, impl_StoreOk.m, impl_StoreOk.b, List.range_succ, bs_get, setAt, h1, h2, h3, c1, c2, c3', ci, c4, hr2, storeOk, q]
  | some k =>
    simp [so0S, soO, q, fin1, hz, irow] at hr2
    simp (maxSteps := 1000000) [exB, impl_StoreOk.m, impl_StoreOk.b, List.range_succ, bs_get, setAt, h1, h2, h3, c1, c2, c3', ci, c4, hr2, storeOk, q]
def spO (s : Store) (seen : List Int) (x : Nat × Nat × Nat) : List (Nat × Ob) := [(1, ⟨x.1, 4, true, true, [encStore s]⟩), (29, ⟨x.2.1, 1, true, false, irow seen⟩)]
def sp0S (s : Store) (i : Nat) (x : Nat × Nat × Nat) : St := { t := [(1, .c (.ptr 1 x.1 0 0)), (3, .c (.row 29 x.2.1 0 (seenAt s i).length)), (4, .c (I i))], o := spO s (seenAt s i) x, n := x.2.2 }
def sp0E (s : Store) (x : Nat × Nat × Nat) : St := { t := [(1, .c (.ptr 1 x.1 0 0)), (3, .c (.row 29 x.2.1 0 (seenAt s s.boxes.length).length)), (4, .c (I s.boxes.length)), (34, .c (.bool false))], o := spO s (seenAt s s.boxes.length) x, n := x.2.2 }
def sp1O (s : Store) (b : Box) (seen : List Int) (x : Nat × Nat × Nat × Nat) : List (Nat × Ob) := [(1, ⟨x.1, 4, true, true, [encStore s]⟩), (5, ⟨x.2.2.1, 7, true, true, [encBox b]⟩), (29, ⟨x.2.1, 1, true, false, irow seen⟩)]
def sp1S (s : Store) (b : Box) (seen : List Int) (i k : Nat) (x : Nat × Nat × Nat × Nat) : St := { t := [(1, .c (.ptr 1 x.1 0 0)), (3, .c (.row 29 x.2.1 0 (seen.length + k))), (4, .c (I i)), (5, .c (.ptr 5 x.2.2.1 0 0)), (6, .c (I k))], o := sp1O s b (seen ++ (gidsOf b).take k) x, n := x.2.2.2 }
def sp1E (s : Store) (b : Box) (seen : List Int) (i : Nat) (x : Nat × Nat × Nat × Nat) : St := { t := [(1, .c (.ptr 1 x.1 0 0)), (3, .c (.row 29 x.2.1 0 (seen.length + b.mails.length))), (4, .c (I i)), (5, .c (.ptr 5 x.2.2.1 0 0)), (6, .c (I b.mails.length)), (87, .c (.bool false))], o := sp1O s b (seen ++ gidsOf b) x, n := x.2.2.2 }
theorem spec_StoreOk.inner (hin : spec_l06In.k M) (s : Store) (b : Box) (seen : List Int) (i K : Nat) (hl : b.mails.length ≤ 1048576) (hs : seen.length ≤ 1048576) :
    ∃ g : Nat × Nat × Nat × Nat → (Nat × Nat × Nat × Nat) × Nat, ∀ x, loopN (exC (run M) K spec_StoreOk.l1) (b.mails.length + 1) (sp1S s b seen i 0 x) = some (fin1 2 (.bool false) 2 (sp1E s b seen i) (firstN (dupAt seen (gidsOf b)) b.mails.length) (g x)) :=
  early_loop b.mails.length (dupAt seen (gidsOf b)) (sp1S s b seen i) 2 (.bool false) 2 (sp1E s b seen i)
    (fun k hk x c => by
      obtain ⟨v, w, z, x⟩ := x
      have hk' : k < (gidsOf b).length := by rw [gidsOf_len]; exact hk
      rw [dupAt_at hk'] at c
      have hlen : (seen ++ (gidsOf b).take k).length = seen.length + k := by rw [List.length_append, List.length_take, Nat.min_eq_left (by omega)]
      have h1 := spec_l06In.says hin (seen ++ (gidsOf b).take k) (gidsOf b)[k] (by rw [hlen]; omega)
      rw [c] at h1
      rw [gidsOf_at] at h1
      simp only [ints] at h1
      have e5 := wrap1 (i := k) (by omega)
      have e6 : seen.length + (k + 1) ≤ 4294967296 := by omega
      have e7 : seen ++ (gidsOf b).take (k + 1) = (seen ++ (gidsOf b).take k) ++ [b.mails[k].gid] := by rw [List.take_succ_eq_append_getElem hk', gidsOf_at, List.append_assoc]
      have e8 : irow ((seen ++ (gidsOf b).take k) ++ [b.mails[k].gid]) = irow (seen ++ (gidsOf b).take k) ++ [[I b.mails[k].gid]] := by simp [irow]
      have e9 : (irow (seen ++ (gidsOf b).take k)).length = seen.length + k := by simp only [irow, List.length_map]; exact hlen
      simp only [Prod.exists, sp1S, sp1O, e7, e8]
      generalize irow (seen ++ (gidsOf b).take k) = rr at *
      simp (maxSteps := 1000000) [spec_StoreOk.l1, List.range_succ, bs_get, setAt, hk, h1, encMail, e5, e6, e9, List.take_of_length_le, Nat.add_assoc]
      exact ⟨_, _, _, ⟨rfl, rfl, rfl⟩, rfl, rfl, rfl⟩)
    (fun k hk x c => by
      obtain ⟨v, w, z, x⟩ := x
      have hk' : k < (gidsOf b).length := by rw [gidsOf_len]; exact hk
      rw [dupAt_at hk'] at c
      have hlen : (seen ++ (gidsOf b).take k).length = seen.length + k := by rw [List.length_append, List.length_take, Nat.min_eq_left (by omega)]
      have h1 := spec_l06In.says hin (seen ++ (gidsOf b).take k) (gidsOf b)[k] (by rw [hlen]; omega)
      rw [c] at h1
      rw [gidsOf_at] at h1
      simp only [ints] at h1
      have e9 : (irow (seen ++ (gidsOf b).take k)).length = seen.length + k := by simp only [irow, List.length_map]; exact hlen
      simp only [sp1S, sp1O]
      generalize irow (seen ++ (gidsOf b).take k) = rr at *
      simp (maxSteps := 1000000) [spec_StoreOk.l1, List.range_succ, bs_get, setAt, hk, h1, encMail, e9, List.take_of_length_le])
    (fun x => by
      obtain ⟨v, w, z, x⟩ := x
      have e7 : (gidsOf b).take b.mails.length = gidsOf b := List.take_of_length_le (by rw [gidsOf_len]; omega)
      simp only [Prod.exists, sp1S, sp1E, sp1O, e7]
      simp (maxSteps := 1000000) [spec_StoreOk.l1, List.range_succ, bs_get, setAt]
      exact ⟨_, _, _, ⟨rfl, rfl, rfl⟩, rfl, rfl, rfl⟩)
structure spec_StoreOk.ks (M : Nat → Option Body) : Prop where
  box : spec_BoxOk.k M
  con : spec_l06In.k M
  nam : spec_BoxNamed.k M
  lat : spec_l07Times.k M
theorem spec_StoreOk.good (h : spec_StoreOk.ks M) (s : Store) (hs : StoreIn s) (K : Nat) (hK : 2000000 ≤ K) (i : Nat) (hi : i < s.boxes.length) (x : Nat × Nat × Nat) (c : badAt s i = false) :
    ∃ y, exC (run M) K spec_StoreOk.l0 (sp0S s i x) = some (.normal, sp0S s (i + 1) y) := by
  have hb := hs.i _ (List.getElem_mem hi)
  have h1 := spec_BoxOk.says h.box s.boxes[i] hb.ok.1 hb.ok.2.1 hb.ok.2.2.1 hb.ok.2.2.2
  have h2 := spec_BoxNamed.says h.nam s s.boxes[i].name hs.b
  have h3 := spec_l06In.says h.con s.gone s.boxes[i].gid (by have := hs.g; omega)
  have h4 := spec_l07Times.says h.lat s.boxes[i] s.time hb.m hb.f
  have hsl := seenAt_le hs i
  obtain ⟨g, hr⟩ := spec_StoreOk.inner h.con s s.boxes[i] (seenAt s i) i K hb.m hsl
  have hr2 := fun x => loopN_le (hr x) (show s.boxes[i].mails.length + 1 ≤ K by have := hb.m; omega)
  rw [badAt_at hi, badBox_at hi] at c
  simp only [Bool.or_eq_false_iff, Bool.and_eq_false_iff, Bool.not_eq_false', decide_eq_false_iff_not, decide_eq_true_eq] at c
  obtain ⟨⟨⟨⟨⟨c1, c2⟩, c3⟩, c4⟩, c5⟩, c6⟩ := c
  have e5 : IntKind.i64.wrap ((i : Int) + 1) = (i : Int) + 1 := wrap_i64 (by have := hs.b; omega) (by have := hs.b; omega)
  rw [c1] at h1
  rw [c3] at h2
  rw [decide_eq_false c4] at h3
  rw [c5] at h4
  have q : firstN (dupAt (seenAt s i) (gidsOf s.boxes[i])) s.boxes[i].mails.length = none := by
    unfold dups at c6; rw [gidsOf_len] at c6; simpa using c6
  rw [q] at hr2
  obtain ⟨v, w, x⟩ := x
  simp only [encBox, encStore] at h1 h2 h4
  simp only [ints] at h3
  have hz : irow (seenAt s i ++ gidsOf s.boxes[i]) = irow (seenAt s i) ++ irow (gidsOf s.boxes[i]) := by simp [irow]
  simp [sp1S, sp1E, sp1O, fin1] at hr2
  simp only [sp0S, spO, seenAt_succ hi, Prod.exists]
  have hgl := gidsOf_len s.boxes[i]
  by_cases c7 : 0 < i
  · have e6 : IntKind.i64.wrap ((i : Int) - 1) = ((i - 1 : Nat) : Int) := by rw [wrap_i64 (by have := hs.b; omega) (by have := hs.b; omega)]; omega
    have c2' : ¬ s.boxes[i].gid ≤ s.boxes[i - 1].gid := by
      rcases c2 with c2 | c2
      · exact absurd c7 c2
      · exact c2
    simp (maxSteps := 1000000) [spec_StoreOk.l0, List.range_succ, bs_get, setAt, hi, h1, h2, h3, h4, c7, c2', e5, e6, hr2, hgl, encBox, (show i - 1 < s.boxes.length by omega)]
  · simp (maxSteps := 1000000) [spec_StoreOk.l0, List.range_succ, bs_get, setAt, hi, h1, h2, h3, h4, c7, e5, hr2, hgl, encBox]
theorem spec_StoreOk.bad (h : spec_StoreOk.ks M) (s : Store) (hs : StoreIn s) (K : Nat) (hK : 2000000 ≤ K) (i : Nat) (hi : i < s.boxes.length) (x : Nat × Nat × Nat) (c : badAt s i = true) :
    ∃ k, exC (run M) K spec_StoreOk.l0 (sp0S s i x) = some (.ret, { t := [(2, .c (.bool false))], o := [], n := k }) := by
  have hb := hs.i _ (List.getElem_mem hi)
  have h1 := spec_BoxOk.says h.box s.boxes[i] hb.ok.1 hb.ok.2.1 hb.ok.2.2.1 hb.ok.2.2.2
  have h2 := spec_BoxNamed.says h.nam s s.boxes[i].name hs.b
  have h3 := spec_l06In.says h.con s.gone s.boxes[i].gid (by have := hs.g; omega)
  have h4 := spec_l07Times.says h.lat s.boxes[i] s.time hb.m hb.f
  have hsl := seenAt_le hs i
  obtain ⟨g, hr⟩ := spec_StoreOk.inner h.con s s.boxes[i] (seenAt s i) i K hb.m hsl
  have hr2 := fun x => loopN_le (hr x) (show s.boxes[i].mails.length + 1 ≤ K by have := hb.m; omega)
  rw [badAt_at hi, badBox_at hi] at c
  obtain ⟨v, w, x⟩ := x
  simp only [encBox, encStore] at h1 h2 h4
  simp only [ints] at h3
  simp only [sp0S, spO]
  cases c1 : boxOk s.boxes[i]
  · rw [c1] at h1
    simp (maxSteps := 1000000) [spec_StoreOk.l0, List.range_succ, bs_get, setAt, hi, h1, encBox]
  rw [c1] at h1
  have tail : ∀ (hp : ¬ 0 < i ∨ ¬ s.boxes[i].gid ≤ s.boxes[i - 1].gid), ∃ k, exC (run M) K spec_StoreOk.l0 { t := [(1, .c (.ptr 1 v 0 0)), (3, .c (.row 29 w 0 (seenAt s i).length)), (4, .c (I i))], o := [(1, ⟨v, 4, true, true, [encStore s]⟩), (29, ⟨w, 1, true, false, irow (seenAt s i)⟩)], n := x } = some (.ret, { t := [(2, .c (.bool false))], o := [], n := k }) := by
    intro hp
    have hpp : (decide (0 < i) && decide (s.boxes[i].gid ≤ s.boxes[i - 1].gid)) = false := by
      rcases hp with hp | hp <;> simp [hp]
    have key : (∀ (Q : Prop), (0 < i → ¬ s.boxes[i].gid ≤ s.boxes[i - 1].gid → Q) → (¬ 0 < i → Q) → Q) := by
      intro Q q1 q2
      by_cases c7 : 0 < i
      · rcases hp with hp | hp
        · exact absurd c7 hp
        · exact q1 c7 hp
      · exact q2 c7
    have e6 : 0 < i → IntKind.i64.wrap ((i : Int) - 1) = ((i - 1 : Nat) : Int) := fun c7 => by rw [wrap_i64 (by have := hs.b; omega) (by have := hs.b; omega)]; omega
    have hi1 : i - 1 < s.boxes.length := by omega
    by_cases c3 : intO (named s.boxes s.boxes[i].name) = (i : Int)
    rotate_left
    · exact key _ (fun c7 c2 => by simp (maxSteps := 1000000) [spec_StoreOk.l0, List.range_succ, bs_get, setAt, hi, h1, h2, c7, c2, c3, e6 c7, encBox, hi1]) (fun c7 => by simp (maxSteps := 1000000) [spec_StoreOk.l0, List.range_succ, bs_get, setAt, hi, h1, h2, c7, c3, encBox])
    rw [c3] at h2
    by_cases c4 : s.boxes[i].gid ∈ s.gone
    · rw [decide_eq_true c4] at h3
      exact key _ (fun c7 c2 => by simp (maxSteps := 1000000) [spec_StoreOk.l0, List.range_succ, bs_get, setAt, hi, h1, h2, h3, c7, c2, c3, e6 c7, encBox, hi1]) (fun c7 => by simp (maxSteps := 1000000) [spec_StoreOk.l0, List.range_succ, bs_get, setAt, hi, h1, h2, h3, c7, c3, encBox])
    rw [decide_eq_false c4] at h3
    cases c5 : late s.boxes[i] s.time
    rotate_left
    · rw [c5] at h4
      exact key _ (fun c7 c2 => by simp (maxSteps := 1000000) [spec_StoreOk.l0, List.range_succ, bs_get, setAt, hi, h1, h2, h3, h4, c7, c2, c3, e6 c7, encBox, hi1]) (fun c7 => by simp (maxSteps := 1000000) [spec_StoreOk.l0, List.range_succ, bs_get, setAt, hi, h1, h2, h3, h4, c7, c3, encBox])
    rw [c5] at h4
    have c6 : dups (seenAt s i) (gidsOf s.boxes[i]) = true := by
      rw [c1, hpp, c3, c5] at c
      simpa [c4] using c
    obtain ⟨k, hk⟩ : ∃ k, firstN (dupAt (seenAt s i) (gidsOf s.boxes[i])) s.boxes[i].mails.length = some k := by
      unfold dups at c6; rw [gidsOf_len] at c6; exact Option.isSome_iff_exists.1 c6
    rw [hk] at hr2
    simp [sp1S, sp1O, fin1] at hr2
    have hgl := gidsOf_len s.boxes[i]
    exact key _ (fun c7 c2 => by simp (maxSteps := 1000000) [spec_StoreOk.l0, List.range_succ, bs_get, setAt, hi, h1, h2, h3, h4, c7, c2, c3, e6 c7, hr2, encBox, hi1]) (fun c7 => by simp (maxSteps := 1000000) [spec_StoreOk.l0, List.range_succ, bs_get, setAt, hi, h1, h2, h3, h4, c7, c3, hr2, encBox])
  by_cases c7 : 0 < i
  · by_cases c2 : s.boxes[i].gid ≤ s.boxes[i - 1].gid
    · have e6 : IntKind.i64.wrap ((i : Int) - 1) = ((i - 1 : Nat) : Int) := by rw [wrap_i64 (by have := hs.b; omega) (by have := hs.b; omega)]; omega
      simp (maxSteps := 1000000) [spec_StoreOk.l0, List.range_succ, bs_get, setAt, hi, h1, c7, c2, e6, encBox, (show i - 1 < s.boxes.length by omega)]
    · exact tail (.inr c2)
  · exact tail (.inl c7)
theorem spec_StoreOk.says (h : spec_StoreOk.k M) (s : Store) (hs : StoreIn s) : run M 149 [.a (encStore s)] [] = some (.c (.bool (storeOk s)), []) := by
  obtain ⟨h0, k1, k2, k3, k4, k5, k6⟩ := h
  have h1 := spec_l01In.inR k2 s.who 1 2
  have h2 := spec_l01In.inR k2 s.time 0 100000
  have h3 := spec_l06Sorted.says k4 s.gone 20 (by have := hs.g; omega)
  refine run_code (b := spec_StoreOk.m) h0 ⟨4000000, ?_⟩
  obtain ⟨K, hK⟩ : ∃ K, 4000000 = K := ⟨_, rfl⟩
  rw [hK]
  obtain ⟨g, hr⟩ := early_loop (f := exC (run M) K spec_StoreOk.l0) s.boxes.length (badAt s) (sp0S s) 2 (.bool false) 0 (sp0E s)
    (fun i hi x c => spec_StoreOk.good ⟨k1, k3, k5, k6⟩ s hs K (by omega) i hi x c)
    (fun i hi x c => spec_StoreOk.bad ⟨k1, k3, k5, k6⟩ s hs K (by omega) i hi x c)
    (fun x => by
      obtain ⟨v, w, x⟩ := x
      simp only [Prod.exists]
      simp (maxSteps := 1000000) [spec_StoreOk.l0, List.range_succ, bs_get, setAt, sp0S, sp0E, spO])
  have hr2 := fun x => loopN_le (hr x) (show s.boxes.length + 1 ≤ K by have := hs.b; omega)
  cases c1 : inR 1 s.who 2
  · simp (maxSteps := 1000000) [exB, spec_StoreOk.m, spec_StoreOk.b, List.range_succ, bs_get, setAt, h1, c1, storeOk]
  cases c2 : inR 0 s.time 100000
  · simp (maxSteps := 1000000) [exB, spec_StoreOk.m, spec_StoreOk.b, List.range_succ, bs_get, setAt, h1, h2, c1, c2, storeOk]
  by_cases c3 : 5 < s.boxes.length
  · have c3' : ¬ s.boxes.length ≤ 5 := by omega
    have ci : (5 : Int) < s.boxes.length := by omega
    simp (maxSteps := 1000000) [exB, spec_StoreOk.m, spec_StoreOk.b, List.range_succ, bs_get, setAt, h1, h2, c1, c2, c3', ci, storeOk]
  have c3' : s.boxes.length ≤ 5 := by omega
  have ci : ¬ (5 : Int) < s.boxes.length := by omega
  cases c4 : gidsOk s.gone 20
  · simp (maxSteps := 1000000) [exB, spec_StoreOk.m, spec_StoreOk.b, List.range_succ, bs_get, setAt, h1, h2, h3, c1, c2, ci, c4, storeOk]
  have hz : seenAt s 0 = [] := by simp [seenAt]
  cases q : firstN (badAt s) s.boxes.length with
  | none =>
    simp [sp0S, sp0E, spO, q, fin1, hz, irow] at hr2
    simp (maxSteps := 1000000) [exB, spec_StoreOk.m, spec_StoreOk.b, List.range_succ, bs_get, setAt, h1, h2, h3, c1, c2, c3', ci, c4, hr2, storeOk, q]
  | some k =>
    simp [sp0S, spO, q, fin1, hz, irow] at hr2
    simp (maxSteps := 1000000) [exB, spec_StoreOk.m, spec_StoreOk.b, List.range_succ, bs_get, setAt, h1, h2, h3, c1, c2, c3', ci, c4, hr2, storeOk, q]
end Mx

namespace Mx
open Go
variable {M : Nat → Option Body}
theorem inR_iff {a n b : Int} : inR a n b = true ↔ a ≤ n ∧ n ≤ b := by simp [inR]
def isVar (n : Int) : Prop := 0 ≤ n ∧ n ≤ 1000000000
theorem flagsOk_regs {l : List Reg} (h : flagsOk l = true) : l.length = 3 ∧ ∀ r ∈ l, regOk r = true := by
  simp only [flagsOk, Bool.and_eq_true, decide_eq_true_eq, Option.isNone_iff_eq_none, firstN_isNone] at h
  refine ⟨h.2, fun r hr => ?_⟩
  obtain ⟨i, hi, e⟩ := List.getElem_of_mem hr
  have := h.1 i hi
  rw [badFlag_at hi, e] at this
  simp at this
  exact this.1
theorem mailOk_vars {m : Mail} (h : mailOk m = true) : isVar m.gid ∧ isVar m.uid ∧ m.flags.length = 3 ∧ (∀ r ∈ m.flags, regOk r = true) ∧ m.text.length ≤ 60 := by
  simp only [mailOk, Bool.and_eq_true, inR_iff, decide_eq_true_eq] at h
  have hf := flagsOk_regs h.1.2
  exact ⟨⟨by omega, by omega⟩, ⟨by omega, by omega⟩, hf.1, hf.2, h.2⟩
theorem stampOk_vars {t w : Int} (h : stampOk t w = true) : isVar t ∧ isVar w := by
  simp only [stampOk, Bool.and_eq_true, inR_iff] at h
  unfold isVar; omega
theorem gidsOk_vars {l : List Int} {most : Int} (h : gidsOk l most = true) : (l.length : Int) ≤ most ∧ ∀ n ∈ l, 1 ≤ n ∧ n ≤ 9999 := by
  simp only [gidsOk, Bool.and_eq_true, decide_eq_true_eq, Option.isNone_iff_eq_none, firstN_isNone] at h
  refine ⟨h.2, fun r hr => ?_⟩
  obtain ⟨i, hi, e⟩ := List.getElem_of_mem hr
  have := h.1 i hi
  rw [badGid_at hi, e] at this
  simp at this
  exact inR_iff.1 this.1
theorem nameOk_len {l : List UInt8} (h : nameOk l = true) : 1 ≤ l.length ∧ l.length ≤ 12 := by
  simp only [nameOk, Bool.and_eq_true, inR_iff] at h
  omega
theorem boxOk_vars {b : Box} (h : boxOk b = true) : isVar b.gid ∧ b.name.length ≤ 12 ∧ isVar b.time ∧ isVar b.who ∧ isVar b.next ∧ b.mails.length ≤ 10 ∧ b.gone.length ≤ 40 ∧ (∀ n ∈ b.gone, isVar n) ∧ ∀ m ∈ b.mails, mailOk m = true := by
  simp only [boxOk, Bool.and_eq_true, decide_eq_true_eq, Option.isNone_iff_eq_none, firstN_isNone, inR_iff] at h
  obtain ⟨⟨⟨⟨⟨⟨h1, h2⟩, h3⟩, h4⟩, h5⟩, h6⟩, h7⟩ := h
  have hn := nameOk_len h2
  have hs := stampOk_vars h3
  have hg := gidsOk_vars h6
  refine ⟨⟨by omega, by omega⟩, hn.2, hs.1, hs.2, ⟨by omega, by omega⟩, h5, by omega, fun n hn => ⟨by have := hg.2 n hn; omega, by have := hg.2 n hn; omega⟩, fun m hm => ?_⟩
  obtain ⟨i, hi, e⟩ := List.getElem_of_mem hm
  have := h7 i hi
  rw [badMail_at hi, e] at this
  simp at this
  exact this.1.1.1.1
end Mx

namespace Mx
open Go
variable {M : Nat → Option Body}
theorem wrap_one : IntKind.i64.wrap 1 = 1 := wrap_i64 (by omega) (by omega)
abbrev bzero : List T := [I 0, .str ⟨#[]⟩, I 0, I 0, I 0, .nils 4, .nils 1]
structure Four where
  a : Nat
  b : Nat
  c : Nat
  d : Nat
theorem Four.ex {p : Four → Prop} : (∃ x, p x) ↔ ∃ a b c d, p ⟨a, b, c, d⟩ := ⟨fun ⟨⟨a, b, c, d⟩, h⟩ => ⟨a, b, c, d, h⟩, fun ⟨a, b, c, d, h⟩ => ⟨⟨a, b, c, d⟩, h⟩⟩
end Mx

namespace Mx
open Go
variable {M : Nat → Option Body}
theorem impl_copyRegs.says (h : impl_copyRegs.k M) (l : List Reg) (hl : l.length ≤ 1048576) : run M 239 [.c (regs l)] [] = some (.c (.sl true 3 (l.map encReg)), []) := by
  refine run_code (b := impl_copyRegs.m) h ⟨0, ?_⟩
  have e : (l.map encReg).length = l.length := by simp
  have h1 : l.length ≤ 4294967296 := by omega
  simp only [regs]
  generalize l.map encReg = r at *
  simp (maxSteps := 1000000) [exB, impl_copyRegs.m, impl_copyRegs.b, List.range_succ, bs_get, setAt, e, h1, List.take_of_length_le]
theorem spec_l04Copy.says (h : spec_l04Copy.k M) (l : List Reg) (hl : l.length ≤ 1048576) : run M 241 [.c (regs l)] [] = some (.c (.sl true 3 (l.map encReg)), []) := by
  refine run_code (b := spec_l04Copy.m) h ⟨0, ?_⟩
  have e : (l.map encReg).length = l.length := by simp
  have h1 : l.length ≤ 4294967296 := by omega
  simp only [regs]
  generalize l.map encReg = r at *
  simp (maxSteps := 1000000) [exB, spec_l04Copy.m, spec_l04Copy.b, List.range_succ, bs_get, setAt, e, h1, List.take_of_length_le]
theorem impl_copyMail.says (h : impl_copyMail.k M) (m : Mail) (hl : m.flags.length ≤ 1048576) : run M 233 [.a (encMail m)] [] = some (.a (encMailO m), []) := by
  have h1 := impl_copyRegs.says h.2 m.flags hl
  refine run_code (b := impl_copyMail.m) h.1 ⟨0, ?_⟩
  have e : (m.flags.map encReg).length = m.flags.length := by simp
  simp only [encMail, encMailO, regs] at *
  generalize m.flags.map encReg = r at *
  simp (maxSteps := 1000000) [exB, impl_copyMail.m, impl_copyMail.b, List.range_succ, bs_get, setAt, h1, e, List.take_of_length_le]
theorem spec_l05Copy.says (h : spec_l05Copy.k M) (m : Mail) (hl : m.flags.length ≤ 1048576) : run M 238 [.a (encMail m)] [] = some (.a (encMailO m), []) := by
  have h1 := spec_l04Copy.says h.2 m.flags hl
  refine run_code (b := spec_l05Copy.m) h.1 ⟨0, ?_⟩
  have e : (m.flags.map encReg).length = m.flags.length := by simp
  simp only [encMail, encMailO, regs] at *
  generalize m.flags.map encReg = r at *
  simp (maxSteps := 1000000) [exB, spec_l05Copy.m, spec_l05Copy.b, List.range_succ, bs_get, setAt, h1, e, List.take_of_length_le]
/-- a loop that counts -/
theorem count_loop {β γ : Type} (n : Nat) {f : St → Option (Out × St)} (S : Nat → β → St) (e : Nat) (E : γ → St)
    (h1 : ∀ i, i < n → ∀ x, ∃ y, f (S i x) = some (.normal, S (i + 1) y)) (h3 : ∀ x, ∃ y, f (S n x) = some (.exit e, E y)) :
    ∃ g : β → γ, ∀ x, loopN f (n + 1) (S 0 x) = some (.exit e, E (g x)) := by
  refine loop_all (f := f) S (fun i => i ≤ n) (fun i => n - i) (fun _ => ()) (fun _ m => (.exit e, E m)) ?_ (n + 1) 0 (Nat.zero_le _) (by omega)
  intro i x hi
  by_cases hlt : i < n
  · left
    obtain ⟨y, hy⟩ := h1 i hlt x
    exact ⟨i + 1, y, hy, hlt, by omega, rfl⟩
  · have : i = n := by omega
    subst this
    right
    obtain ⟨y, hy⟩ := h3 x
    exact ⟨y, by simp [hy], by simp⟩
def icO (b : Box) (i : Nat) (x : Four × Nat) : List (Nat × Ob) := [(1, ⟨x.1.a, 7, true, true, [encBox b]⟩), (2, ⟨x.1.b, 7, true, true, [bzero]⟩), (3, ⟨x.2, 7, true, true, [[I b.gid, S b.name, I b.time, I b.who, I b.next, .row 7 x.1.c 0 i, ints b.gone]]⟩), (7, ⟨x.1.c, 4, true, false, (b.mails.take i).map encMail⟩)]
def icS (b : Box) (i : Nat) (x : Four × Nat) : St := { t := [(1, .c (.ptr 1 x.1.a 0 0)), (2, .c (.ptr 2 x.1.b 0 0)), (3, .c (.ptr 3 x.2 0 0)), (10, .c (mails b.mails)), (11, .c (I b.mails.length)), (12, .c (I i))], o := icO b i x, n := x.1.d }
def icE (b : Box) (x : Four × Nat) : St := { t := [(1, .c (.ptr 1 x.1.a 0 0)), (2, .c (.ptr 2 x.1.b 0 0)), (3, .c (.ptr 3 x.2 0 0)), (10, .c (mails b.mails)), (11, .c (I b.mails.length)), (12, .c (I b.mails.length)), (13, .c (.bool false))], o := icO b b.mails.length x, n := x.1.d }
theorem take_snoc {α : Type} (l : List α) (i : Nat) (h : i < l.length) : l.take (i + 1) = l.take i ++ [l[i]] := List.take_succ_eq_append_getElem h
theorem impl_copyBox.says (h : impl_copyBox.k M) (b : Box) (hb : BoxIn b) : run M 155 [.a (encBox b)] [] = some (.a (encBoxO b), []) := by
  obtain ⟨h0, k1, k2⟩ := h
  have hm := hb.m
  have h1 := impl_copyInts.says k1 b.gone hb.g
  refine run_code (b := impl_copyBox.m) h0 ⟨b.mails.length + 1, ?_⟩
  obtain ⟨g, hr⟩ := count_loop (f := exC (run M) (b.mails.length + 1) impl_copyBox.l0) b.mails.length (icS b) 0 (icE b)
    (fun i hi x => by
      obtain ⟨⟨v1, v2, v3, n⟩, v4⟩ := x
      have h2 := impl_copyMail.says k2 b.mails[i] (hb.f _ (List.getElem_mem hi))
      have e5 := wrap1 (i := i) (by omega)
      have e6 : i + 1 ≤ 4294967296 := by omega
      have e7 : ((b.mails.take i).map encMail).length = i := by simp; omega
      have e8 : ((b.mails.take (i + 1)).map encMail) = (b.mails.take i).map encMail ++ [encMail b.mails[i]] := by rw [take_snoc _ _ hi, List.map_append]; rfl
      simp only [icS, icO, e8, Prod.exists, Four.ex]
      generalize (b.mails.take i).map encMail = rr at *
      simp only [encMail, encMailO] at h2
      simp (maxSteps := 1000000) [impl_copyBox.l0, List.range_succ, bs_get, setAt, hi, h2, e5, e6, e7, encMail, List.take_of_length_le]
      exact ⟨_, _, _, _, _, ⟨rfl, rfl, rfl⟩, ⟨rfl, rfl, rfl, rfl⟩, rfl⟩)
    (fun x => by
      obtain ⟨⟨v1, v2, v3, n⟩, v4⟩ := x
      simp only [Prod.exists, Four.ex]
      simp (maxSteps := 1000000) [impl_copyBox.l0, List.range_succ, bs_get, setAt, icS, icE, icO]
      exact ⟨_, _, _, _, _, ⟨rfl, rfl, rfl⟩, ⟨rfl, rfl, rfl, rfl⟩, rfl⟩)
  have e7 : (b.mails.map encMail).length = b.mails.length := by simp
  have e8 := irow_length b.gone
  have e9 : b.mails.take b.mails.length = b.mails := by simp
  simp only [ints] at h1
  simp only [icS, icE, icO, e9, List.take_zero, List.map_nil, ints] at hr
  replace hr := fun a b c d n => hr ⟨⟨a, b, c, d⟩, n⟩
  simp only [encBox, encBoxO, mails, ints] at hr ⊢
  generalize b.mails.map encMail = rm at *
  generalize irow b.gone = rg at *
  simp at hr
  simp (maxSteps := 1000000) [exB, impl_copyBox.m, impl_copyBox.b, List.range_succ, bs_get, setAt, hr, h1, e7, e8, List.take_of_length_le]
def scO (b : Box) (i : Nat) (x : Four × Nat) : List (Nat × Ob) := [(1, ⟨x.1.a, 7, true, true, [encBox b]⟩), (2, ⟨x.1.b, 7, true, true, [bzero]⟩), (3, ⟨x.2, 7, true, true, [[I b.gid, S b.name, I b.time, I b.who, I b.next, .row 6 x.1.c 0 i, ints b.gone]]⟩), (6, ⟨x.1.c, 4, true, false, (b.mails.take i).map encMail⟩)]
def scS (b : Box) (i : Nat) (x : Four × Nat) : St := { t := [(1, .c (.ptr 1 x.1.a 0 0)), (2, .c (.ptr 2 x.1.b 0 0)), (3, .c (.ptr 3 x.2 0 0)), (4, .c (I i))], o := scO b i x, n := x.1.d }
def scE (b : Box) (x : Four × Nat) : St := { t := [(1, .c (.ptr 1 x.1.a 0 0)), (2, .c (.ptr 2 x.1.b 0 0)), (3, .c (.ptr 3 x.2 0 0)), (4, .c (I b.mails.length)), (12, .c (.bool false))], o := scO b b.mails.length x, n := x.1.d }
theorem spec_l06Copy.says (h : spec_l06Copy.k M) (b : Box) (hb : BoxIn b) : run M 180 [.a (encBox b)] [] = some (.a (encBoxO b), []) := by
  obtain ⟨h0, k2⟩ := h
  have hm := hb.m
  have hg := hb.g
  refine run_code (b := spec_l06Copy.m) h0 ⟨b.mails.length + 1, ?_⟩
  obtain ⟨g, hr⟩ := count_loop (f := exC (run M) (b.mails.length + 1) spec_l06Copy.l0) b.mails.length (scS b) 0 (scE b)
    (fun i hi x => by
      obtain ⟨⟨v1, v2, v3, n⟩, v4⟩ := x
      have h2 := spec_l05Copy.says k2 b.mails[i] (hb.f _ (List.getElem_mem hi))
      have e5 := wrap1 (i := i) (by omega)
      have e6 : i + 1 ≤ 4294967296 := by omega
      have e7 : ((b.mails.take i).map encMail).length = i := by simp; omega
      have e8 : ((b.mails.take (i + 1)).map encMail) = (b.mails.take i).map encMail ++ [encMail b.mails[i]] := by rw [take_snoc _ _ hi, List.map_append]; rfl
      simp only [scS, scO, e8, Prod.exists, Four.ex]
      generalize (b.mails.take i).map encMail = rr at *
      simp only [encMail, encMailO] at h2
      simp (maxSteps := 1000000) [spec_l06Copy.l0, List.range_succ, bs_get, setAt, hi, h2, e5, e6, e7, encMail, List.take_of_length_le]
      exact ⟨_, _, _, _, _, ⟨rfl, rfl, rfl⟩, ⟨rfl, rfl, rfl, rfl⟩, rfl⟩)
    (fun x => by
      obtain ⟨⟨v1, v2, v3, n⟩, v4⟩ := x
      simp only [Prod.exists, Four.ex]
      simp (maxSteps := 1000000) [spec_l06Copy.l0, List.range_succ, bs_get, setAt, scS, scE, scO]
      exact ⟨_, _, _, _, _, ⟨rfl, rfl, rfl⟩, ⟨rfl, rfl, rfl, rfl⟩, rfl⟩)
  have e7 : (b.mails.map encMail).length = b.mails.length := by simp
  have e8 := irow_length b.gone
  have e9 : b.mails.take b.mails.length = b.mails := by simp
  have e6 : b.gone.length ≤ 4294967296 := by omega
  simp only [scS, scE, scO, e9, List.take_zero, List.map_nil, ints] at hr
  replace hr := fun a b c d n => hr ⟨⟨a, b, c, d⟩, n⟩
  simp only [encBox, encBoxO, mails, ints] at hr ⊢
  generalize b.mails.map encMail = rm at *
  generalize irow b.gone = rg at *
  simp at hr
  simp (maxSteps := 1000000) [exB, spec_l06Copy.m, spec_l06Copy.b, List.range_succ, bs_get, setAt, hr, e6, e7, e8, List.take_of_length_le]
def bitOf (n : Int) (i : Nat) : Int := n.fdiv ((2 ^ i : Nat) : Int) % 2
theorem and_one (x : Int) : andI .i64 x 1 = x % 2 := by
  unfold andI
  have h1 : (BitVec.ofInt IntKind.i64.bits x &&& BitVec.ofInt IntKind.i64.bits 1).toNat = (x % 2).toNat := by
    change (BitVec.ofInt 64 x &&& BitVec.ofInt 64 1).toNat = (x % 2).toNat
    simp only [BitVec.toNat_and, BitVec.toNat_ofInt]
    have : ((1 : Int) % ((2 ^ 64 : Nat) : Int)).toNat = 1 := by decide
    rw [this, Nat.and_one_is_mod]
    have h2 : (x % ((2 ^ 64 : Nat) : Int)).toNat % 2 = (x % ((2 ^ 64 : Nat) : Int) % 2).toNat := by
      have : 0 ≤ x % ((2 ^ 64 : Nat) : Int) := Int.emod_nonneg _ (by decide)
      omega
    rw [h2]
    congr 1
    have : ((2 ^ 64 : Nat) : Int) = 18446744073709551616 := by decide
    rw [this]; omega
  rw [h1, wrap_i64 (by omega) (by omega)]
  omega
def flagsNew (n t w : Int) : List Reg := [⟨bitOf n 0, t, w⟩, ⟨bitOf n 1, t, w⟩, ⟨bitOf n 2, t, w⟩]
theorem impl_FlagsNew.says (h : impl_FlagsNew.k M) (n t w : Int) : run M 157 [.c (I n), .a [I t, I w]] [] = some (.c (.sl true 3 ((flagsNew n t w).map encReg)), []) := by
  refine run_code (b := impl_FlagsNew.m) h ⟨4, ?_⟩
  have w2 : IntKind.i64.wrap 2 = 2 := wrap_i64 (by omega) (by omega)
  have w3 : IntKind.i64.wrap 3 = 3 := wrap_i64 (by omega) (by omega)
  simp (maxSteps := 1000000) [exB, impl_FlagsNew.m, impl_FlagsNew.b, List.range_succ, bs_get, setAt, loopN, impl_FlagsNew.l0, wrap_one, w2, w3, and_one, flagsNew, encReg, bitOf, IntKind.bits]
theorem tmod_two (x : Int) : (x.tmod 2 = 0) ↔ x % 2 = 0 :=
  ⟨fun h => Int.emod_eq_zero_of_dvd (Int.dvd_of_tmod_eq_zero h), fun h => Int.tmod_eq_zero_of_dvd (Int.dvd_of_emod_eq_zero h)⟩
theorem spec_FlagsNew.says (h : spec_FlagsNew.k M) (n t w : Int) : run M 181 [.c (I n), .a [I t, I w]] [] = some (.c (.sl true 3 ((flagsNew n t w).map encReg)), []) := by
  refine run_code (b := spec_FlagsNew.m) h ⟨4, ?_⟩
  have w2 : IntKind.i64.wrap 2 = 2 := wrap_i64 (by omega) (by omega)
  have w3 : IntKind.i64.wrap 3 = 3 := wrap_i64 (by omega) (by omega)
  have u0 : IntKind.u64.wrap 0 = 0 := by decide
  have u1 : IntKind.u64.wrap 1 = 1 := by decide
  have u2 : IntKind.u64.wrap 2 = 2 := by decide
  have key : ∀ i : Nat, bitOf n i = if (n.fdiv ((2 ^ i : Nat) : Int)).tmod 2 = 0 then 0 else 1 := by
    intro i
    unfold bitOf
    by_cases c : (n.fdiv ((2 ^ i : Nat) : Int)).tmod 2 = 0
    · rw [if_pos c]; exact (tmod_two _).1 c
    · rw [if_neg c]; rw [tmod_two] at c; omega
  have k0 := key 0
  have k1 := key 1
  have k2 := key 2
  by_cases c0 : (n.fdiv ((2 ^ 0 : Nat) : Int)).tmod 2 = 0 <;> by_cases c1 : (n.fdiv ((2 ^ 1 : Nat) : Int)).tmod 2 = 0 <;> by_cases c2 : (n.fdiv ((2 ^ 2 : Nat) : Int)).tmod 2 = 0 <;>
    simp only [c0, c1, c2, if_true, if_false] at k0 k1 k2 <;> simp at c0 c1 c2 <;>
    simp (maxSteps := 1000000) [exB, spec_FlagsNew.m, spec_FlagsNew.b, List.range_succ, bs_get, setAt, loopN, spec_FlagsNew.l0, wrap_one, w2, w3, u0, u1, u2, flagsNew, encReg, k0, k1, k2, c0, c1, c2, IntKind.bits]
end Mx

namespace Mx
open Go
variable {M : Nat → Option Body}
def uidAt (l : List Mail) (i : Nat) : Int := match l[i]? with | some m => m.uid | none => 0
def keepsUid (a b : Box) (g : Int) : Bool := match mailO a.mails g with
  | none => false
  | some i => match mailO b.mails g with
    | some k => decide (uidAt a.mails i = uidAt b.mails k)
    | none => decide (b.next ≤ uidAt a.mails i)
end Mx

namespace Mx
open Go
def insBy {α : Type} (k : α → Int) (acc : List α) (m : α) : List α := acc.filter (fun x => decide (k x ≤ k m)) ++ [m] ++ acc.filter (fun x => decide (k m < k x))
def later (t w u x : Int) : Bool := decide (u < t) || (decide (t = u) && decide (x < w))
def joinReg (a b : Reg) : Reg := if later b.time b.who a.time a.who = true ∨ later a.time a.who b.time b.who = false ∧ a.val < b.val then b else a
def joinFlags (a b : List Reg) : List Reg := List.zipWith joinReg a b
def maxT (a b : List UInt8) : List UInt8 := if bless a b = true then b else a
def joinMail (a b : Mail) : Mail := if a.gid = b.gid then ⟨a.gid, Max.max a.uid b.uid, joinFlags a.flags b.flags, maxT a.text b.text⟩ else a
def mailIn (l : List Mail) (g : Int) : Option Mail := l.find? fun m => decide (m.gid = g)
def gids (l : List Mail) : List Int := l.map (·.gid)
def joinM (a b : List Mail) (g : Int) : Mail := match mailIn a g, mailIn b g with
  | some x, some y => joinMail x y
  | some x, none => x
  | none, some y => y
  | none, none => ⟨0, 0, [], []⟩
def needs (a b : Box) (g : Int) : Bool := (holds a g && !keepsUid a b g) || (holds b g && !keepsUid b a g)
def stepJ (a b : Box) (s : List Mail × Int) (g : Int) : List Mail × Int :=
  if g ∈ a.gone ∨ g ∈ b.gone then s else
  if needs a b g = true then (insBy (·.uid) s.1 { joinM a.mails b.mails g with uid := s.2 }, s.2 + 1) else (insBy (·.uid) s.1 (joinM a.mails b.mails g), s.2)
/-- the other side's way -/
def joinedS (a b : Box) : List Mail × Int := (joinGone (gids a.mails) (gids b.mails)).foldl (stepJ a b) ([], Max.max a.next b.next)
/-- what two boxes come to -/
def joinBox (a b : Box) : Box := if a.gid = b.gid then
    { gid := a.gid, name := if later b.time b.who a.time a.who = true ∨ later a.time a.who b.time b.who = false ∧ bless a.name b.name = true then b.name else a.name,
      time := if later b.time b.who a.time a.who = true ∨ later a.time a.who b.time b.who = false ∧ bless a.name b.name = true then b.time else a.time,
      who := if later b.time b.who a.time a.who = true ∨ later a.time a.who b.time b.who = false ∧ bless a.name b.name = true then b.who else a.who,
      next := (joinedS a b).2, mails := (joinedS a b).1, gone := joinGone a.gone b.gone } else a
end Mx

namespace Mx
open Go
variable {M : Nat → Option Body}
theorem spec_Later.says (h : spec_Later.k M) (t w u x : Int) : run M 277 [.a [I t, I w], .a [I u, I x]] [] = some (.c (.bool (later t w u x)), []) := by
  refine run_code (b := spec_Later.m) h ⟨0, ?_⟩
  unfold later
  by_cases c2 : t = u
  · subst c2; simp (maxSteps := 1000000) [exB, spec_Later.m, spec_Later.b, List.range_succ, bs_get, setAt]
  · simp (maxSteps := 1000000) [exB, spec_Later.m, spec_Later.b, List.range_succ, bs_get, setAt, c2]
def putReg (r : Reg) (v t w : Int) : Reg := if later t w r.time r.who = true ∧ regOk ⟨v, t, w⟩ = true then ⟨v, t, w⟩ else r
theorem spec_PutReg.says (h : spec_PutReg.k M) (r : Reg) (v t w : Int) : run M 243 [.a (encReg r), .c (I v), .a [I t, I w]] [] = some (.a (encReg (putReg r v t w)), []) := by
  obtain ⟨h0, k1, k2⟩ := h
  have h1 := spec_RegOk.says k1 ⟨v, t, w⟩
  have h2 := spec_Later.says k2 t w r.time r.who
  refine run_code (b := spec_PutReg.m) h0 ⟨0, ?_⟩
  unfold putReg
  simp only [encReg] at h1
  generalize later t w r.time r.who = a at *
  generalize regOk ⟨v, t, w⟩ = b at *
  cases a <;> cases b <;> simp (maxSteps := 1000000) [exB, spec_PutReg.m, spec_PutReg.b, List.range_succ, bs_get, setAt, h1, h2, encReg]
def setFlag (n t w : Int) (i : Nat) (r : Reg) : Reg := if r.val = bitOf n i then r else putReg r (bitOf n i) t w
def setFlags (l : List Reg) (n t w : Int) : List Reg := if flagsOk l = true ∧ inR 0 n 7 = true then l.mapIdx (setFlag n t w) else l
/-- the first k are set -/
def setTo (l : List Reg) (n t w : Int) (k : Nat) : List Reg := l.mapIdx fun i r => if i < k then setFlag n t w i r else r
theorem setTo_zero (l : List Reg) (n t w : Int) : setTo l n t w 0 = l := by
  unfold setTo; simp [List.mapIdx_eq_iff]
theorem setTo_all (l : List Reg) (n t w : Int) : setTo l n t w l.length = l.mapIdx (setFlag n t w) := by
  unfold setTo
  apply List.ext_getElem
  · simp
  · intro i h1 h2; simp at h1 ⊢; intro h; omega
theorem setTo_len (l : List Reg) (n t w : Int) (k : Nat) : (setTo l n t w k).length = l.length := by simp [setTo]
theorem setTo_at (l : List Reg) (n t w : Int) (k : Nat) (h : k < l.length) : (setTo l n t w k)[k]'(by simpa [setTo] using h) = l[k] := by simp [setTo]
theorem setTo_succ (l : List Reg) (n t w : Int) (k : Nat) (h : k < l.length) : setTo l n t w (k + 1) = (setTo l n t w k).set k (setFlag n t w k l[k]) := by
  unfold setTo
  apply List.ext_getElem
  · simp
  · intro i h1 h2
    simp only [List.getElem_mapIdx, List.getElem_set]
    by_cases c : k = i
    · subst c; simp
    · rw [if_neg c]
      by_cases c2 : i < k
      · rw [if_pos c2, if_pos (by omega)]
      · rw [if_neg c2, if_neg (by omega)]
end Mx

namespace Mx
open Go
/-- a loop whose rounds are told by an invariant alone -/
theorem loop_ex {σ : Type} {f : St → Option (Out × St)} (S : σ → St) (Inv : σ → Prop) (μ : σ → Nat) (Post : Out × St → Prop)
    (h : ∀ s, Inv s → (∃ s', f (S s) = some (.normal, S s') ∧ Inv s' ∧ μ s' < μ s) ∨ (∃ r, f (S s) = some r ∧ r.1 ≠ .normal ∧ Post r)) :
    ∀ m s, Inv s → μ s < m → ∃ r, loopN f m (S s) = some r ∧ Post r
  | 0, s, _, hm => by omega
  | m + 1, s, hi, hm => by
    rcases h s hi with ⟨s', h1, h2, h3⟩ | ⟨⟨o, r⟩, h1, h2, h3⟩
    · obtain ⟨r, q1, q2⟩ := loop_ex S Inv μ Post h m s' h2 (by omega)
      exact ⟨r, by simp only [loopN, h1]; exact q1, q2⟩
    · refine ⟨(o, r), ?_, h3⟩
      simp only [loopN, h1]
      cases o with
      | normal => exact (h2 rfl).elim
      | _ => rfl
end Mx

namespace Mx
open Go
variable {M : Nat → Option Body}
def pAt {α : Type} (p : α → Bool) (l : List α) (i : Nat) : Bool := match l[i]? with | some m => p m | none => false
theorem pAt_at {α : Type} (p : α → Bool) (l : List α) (i : Nat) (h : i < l.length) : pAt p l i = p l[i] := by simp [pAt, h]
end Mx

namespace Mx
open Go
variable {M : Nat → Option Body}
def bigS (f : Nat) (cs : List T) (l : List Box) (i : Nat) (x : Nat) : St := { t := [(0, .c (boxes l)), (1, .c (.fn f [.vp cs 0])), (7, .c (I l.length)), (8, .c (I i))], o := [], n := x }
theorem slices_IndexFunc_impl_Box_impl_Box.gen (h : slices_IndexFunc_impl_Box_impl_Box.k M) {f : Nat} {cs : List T} {p : Box → Bool} (hf : ∀ m, run M f [.a (encBox m), .c (.vp cs 0)] [] = some (.c (.bool (p m)), [])) (l : List Box) (hl : l.length ≤ 1048576) :
    run M 200 [.c (boxes l), .c (.fn f [.vp cs 0])] [] = some (.c (I (intO (firstN (pAt p l) l.length))), []) := by
  refine run_code (b := slices_IndexFunc_impl_Box_impl_Box.m) h ⟨l.length + 1, ?_⟩
  obtain ⟨g', hr⟩ := first_loop (f := exC (run M) (l.length + 1) slices_IndexFunc_impl_Box_impl_Box.l0) l.length (pAt p l) (bigS f cs l) atFin atFin_ne
    (fun i hi x c => by
      have hm := hf l[i]
      rw [pAt_at p l i hi] at c
      rw [c] at hm
      have e5 := wrap1 (i := i) (by omega)
      simp [bigS, slices_IndexFunc_impl_Box_impl_Box.l0, hi, hm, encBox, e5])
    (fun i hi x c => by
      have hm := hf l[i]
      rw [pAt_at p l i hi] at c
      rw [c] at hm
      simp [bigS, slices_IndexFunc_impl_Box_impl_Box.l0, hi, hm, encBox, atFin]
      exact ⟨⟨[], [], _⟩, rfl⟩)
    (fun x => by simp [bigS, slices_IndexFunc_impl_Box_impl_Box.l0, atFin])
  cases hm : firstN (pAt p l) l.length with
  | none =>
    simp [bigS, hm, atFin] at hr
    simp [exB, slices_IndexFunc_impl_Box_impl_Box.m, slices_IndexFunc_impl_Box_impl_Box.b, List.range_succ, hr, intO]
  | some k =>
    simp [bigS, hm, atFin] at hr
    simp [exB, slices_IndexFunc_impl_Box_impl_Box.m, slices_IndexFunc_impl_Box_impl_Box.b, List.range_succ, hr, intO]
end Mx

namespace Mx
open Go
variable {M : Nat → Option Body}
def fig (d : Nat) : UInt8 := UInt8.ofNat (48 + d)
def digs (m : Nat) (acc : List UInt8) : List UInt8 := if m = 0 then acc else digs (m / 10) (fig (m % 10) :: acc)
termination_by m
decreasing_by omega
def dec (n : Int) : List UInt8 := if n = 0 then [48] else (if n < 0 then [45] else []) ++ digs n.natAbs []
end Mx

namespace Mx
open Go
variable {M : Nat → Option Body}
def otherName (s : List UInt8) (g : Int) : List UInt8 := s.take 6 ++ [120] ++ if 0 < g then (dec g).drop ((dec g).length - 5) else []
def boxO (l : List Box) (g : Int) : Option Nat := firstN (pAt (fun b : Box => decide (b.gid = g)) l) l.length
def boxIn (l : List Box) (g : Int) : Option Box := l.find? fun b => decide (b.gid = g)
theorem boxO_some {l : List Box} {g : Int} {k : Nat} (h : boxO l g = some k) : ∃ hk : k < l.length, boxIn l g = some l[k] := by
  obtain ⟨h1, h2, h3⟩ := firstN_some h
  refine ⟨h1, ?_⟩
  unfold boxIn
  rw [List.find?_eq_some_iff_getElem]
  rw [pAt_at _ _ _ h1] at h2
  refine ⟨h2, k, h1, rfl, fun j hj => ?_⟩
  have := h3 j hj
  rw [pAt_at _ _ _ (by omega)] at this
  simp only [this, Bool.not_false]
theorem boxO_none {l : List Box} {g : Int} (h : boxO l g = none) : boxIn l g = none := by
  unfold boxIn
  rw [List.find?_eq_none]
  intro b hb
  obtain ⟨j, hj, rfl⟩ := List.getElem_of_mem hb
  have := firstN_none h j hj
  rw [pAt_at _ _ _ hj] at this
  simp only [this]; decide
end Mx

namespace Mx
open Go
variable {M : Nat → Option Body}
abbrev curD (R : List (List T)) (i : Nat) (h : Int) : Nat × Ob := (0, ⟨0, 3, true, true, [[.sl false 1 R, I i, I h]]⟩)
def Bytes (R : List (List T)) : Prop := R.length ≤ 1048576 ∧ ∀ (i : Nat) (r : List T), R[i]? = some r → ∃ n : Int, r = [.int .u8 n]
theorem and_255 (x : Int) : ∃ n : Nat, n < 256 ∧ andI .i64 x 255 = (n : Int) := by
  rw [andI_eq]
  refine ⟨(x % ((2 ^ IntKind.i64.bits : Nat) : Int)).toNat &&& 255, ?_, ?_⟩
  · have : (x % ((2 ^ IntKind.i64.bits : Nat) : Int)).toNat &&& 255 ≤ 255 := Nat.and_le_right
    omega
  · have h : (x % ((2 ^ IntKind.i64.bits : Nat) : Int)).toNat &&& 255 ≤ 255 := Nat.and_le_right
    have e : ((255 : Int) % ((2 ^ IntKind.i64.bits : Nat) : Int)).toNat = 255 := by decide
    rw [e]
    exact wrap_i64 (by omega) (by omega)
theorem spec_l01Byte.says (h : spec_l01Byte.k M) {R : List (List T)} (hR : Bytes R) (i : Nat) (q : Int) (hi : i ≤ R.length) :
    ∃ (x i' : Nat) (q' : Int), x < 256 ∧ i' ≤ R.length ∧ run M 131 [.c (.ptr 0 0 0 0)] [curD R i q] = some (.c (I x), [curD R i' q']) := by
  obtain ⟨hl, hb⟩ := hR
  obtain ⟨q1, hq1⟩ : ∃ q1, IntKind.i64.wrap (IntKind.i64.wrap (q * 6364136223846793005) + 1442695040888963407) = q1 := ⟨_, rfl⟩
  obtain ⟨x, hx, e1⟩ := and_255 (xorI .i64 (q1.fdiv ((2 : Int) ^ min 33 IntKind.i64.bits)) (q1.fdiv ((2 : Int) ^ min 45 IntKind.i64.bits)))
  by_cases hlt : i < R.length
  · obtain ⟨n, hn⟩ := hb i R[i] (List.getElem?_eq_getElem hlt)
    obtain ⟨y, hy, e2⟩ := and_255 (IntKind.i64.wrap (x + IntKind.i64.wrap n))
    refine ⟨y, i + 1, q1, hy, by omega, ?_⟩
    refine run_code (b := spec_l01Byte.m) h ⟨0, ?_⟩
    have e3 := wrap1 (i := i) (by omega)
    simp (maxSteps := 1000000) [exB, spec_l01Byte.m, spec_l01Byte.b, List.range_succ, bs_get, setAt, hq1, e1, e2, e3, hlt, hn]
  · refine ⟨x, i, q1, hx, hi, ?_⟩
    refine run_code (b := spec_l01Byte.m) h ⟨0, ?_⟩
    simp (maxSteps := 1000000) [exB, spec_l01Byte.m, spec_l01Byte.b, List.range_succ, bs_get, setAt, hq1, e1, hlt]
theorem tmod_small (x n : Nat) (hn : 0 < n) : ∃ y : Nat, y < n ∧ ((x : Int).tmod (n : Int)) = (y : Int) := ⟨x % n, Nat.mod_lt _ hn, by rw [Int.tmod_eq_emod_of_nonneg (by omega)]; rfl⟩
/-- a number below n (at most 256, or a drawn one of four bytes) -/
theorem spec_l01Below.says (h : spec_l01Below.k M) {R : List (List T)} (hR : Bytes R) (i : Nat) (q : Int) (hi : i ≤ R.length) (n : Nat) (hn : 0 < n) (hn2 : n ≤ 1000000000) :
    ∃ (x i' : Nat) (q' : Int), x < n ∧ i' ≤ R.length ∧ run M 125 [.c (.ptr 0 0 0 0), .c (I n)] [curD R i q] = some (.c (I x), [curD R i' q']) := by
  obtain ⟨h0, k1⟩ := h
  have n0 : ¬ (n : Int) ≤ 0 := by omega
  have n1 : ¬ n = 0 := by omega
  obtain ⟨x1, i1, q1, hx1, hi1, h1⟩ := spec_l01Byte.says k1 hR i q hi
  by_cases hs : n ≤ 256
  · have hs2 : (n : Int) ≤ 256 := by omega
    obtain ⟨y, hy, e⟩ := tmod_small x1 n hn
    refine ⟨y, i1, q1, hy, hi1, ?_⟩
    refine run_code (b := spec_l01Below.m) h0 ⟨0, ?_⟩
    simp (maxSteps := 1000000) [exB, spec_l01Below.m, spec_l01Below.b, List.range_succ, bs_get, setAt, h1, n0, n1, hs, hs2, e]
  · have hs2 : ¬ (n : Int) ≤ 256 := by omega
    obtain ⟨x2, i2, q2, hx2, hi2, h2⟩ := spec_l01Byte.says k1 hR i1 q1 hi1
    obtain ⟨x3, i3, q3, hx3, hi3, h3⟩ := spec_l01Byte.says k1 hR i2 q2 hi2
    obtain ⟨x4, i4, q4, hx4, hi4, h4⟩ := spec_l01Byte.says k1 hR i3 q3 hi3
    have w1 : IntKind.i64.wrap ((x1 : Int) * 16777216) = ((x1 * 16777216 : Nat) : Int) := wrap_i64 (by omega) (by omega)
    have w2 : IntKind.i64.wrap ((x2 : Int) * 65536) = ((x2 * 65536 : Nat) : Int) := wrap_i64 (by omega) (by omega)
    have w3 : IntKind.i64.wrap ((x3 : Int) * 256) = ((x3 * 256 : Nat) : Int) := wrap_i64 (by omega) (by omega)
    obtain ⟨y1, hy1⟩ : ∃ y1, x1 * 16777216 = y1 := ⟨_, rfl⟩
    obtain ⟨y2, hy2⟩ : ∃ y2, x2 * 65536 = y2 := ⟨_, rfl⟩
    obtain ⟨y3, hy3⟩ : ∃ y3, x3 * 256 = y3 := ⟨_, rfl⟩
    rw [hy1] at w1; rw [hy2] at w2; rw [hy3] at w3
    have w4 : IntKind.i64.wrap ((y1 : Int) + y2) = ((y1 + y2 : Nat) : Int) := wrap_i64 (by omega) (by omega)
    obtain ⟨z1, hz1⟩ : ∃ z1, y1 + y2 = z1 := ⟨_, rfl⟩
    rw [hz1] at w4
    have w5 : IntKind.i64.wrap ((z1 : Int) + y3) = ((z1 + y3 : Nat) : Int) := wrap_i64 (by omega) (by omega)
    obtain ⟨z2, hz2⟩ : ∃ z2, z1 + y3 = z2 := ⟨_, rfl⟩
    rw [hz2] at w5
    have w6 : IntKind.i64.wrap ((z2 : Int) + x4) = ((z2 + x4 : Nat) : Int) := wrap_i64 (by omega) (by omega)
    obtain ⟨z3, hz3⟩ : ∃ z3, z2 + x4 = z3 := ⟨_, rfl⟩
    rw [hz3] at w6
    obtain ⟨y, hy, e⟩ := tmod_small z3 n hn
    refine ⟨y, i4, q4, hy, hi4, ?_⟩
    refine run_code (b := spec_l01Below.m) h0 ⟨0, ?_⟩
    simp (maxSteps := 1000000) [exB, spec_l01Below.m, spec_l01Below.b, List.range_succ, bs_get, setAt, h1, h2, h3, h4, w1, w2, w3, w4, w5, w6, n0, n1, hs, hs2, e]
theorem spec_l01Pick.says (h : spec_l01Pick.k M) {R : List (List T)} (hR : Bytes R) (i : Nat) (q : Int) (hi : i ≤ R.length) (ss : List (List UInt8)) (h0 : 0 < ss.length) (hn : ss.length ≤ 256) :
    ∃ (s : List UInt8) (i' : Nat) (q' : Int), s ∈ ss ∧ i' ≤ R.length ∧ run M 185 [.c (.ptr 0 0 0 0), .c (.sl false 1 (ss.map fun s => [S s]))] [curD R i q] = some (.c (S s), [curD R i' q']) := by
  obtain ⟨hm, k1⟩ := h
  obtain ⟨x, i1, q1, hx, hi1, h1⟩ := spec_l01Below.says k1 hR i q hi ss.length h0 (by omega)
  refine ⟨ss[x], i1, q1, List.getElem_mem hx, hi1, ?_⟩
  refine run_code (b := spec_l01Pick.m) hm ⟨0, ?_⟩
  simp (maxSteps := 1000000) [exB, spec_l01Pick.m, spec_l01Pick.b, List.range_succ, bs_get, setAt, h1, hx]
def texts5 : List (List UInt8) := [[104, 101, 108, 108, 111], [104, 105, 10], [], [116, 101, 120, 116, 32, 111, 102, 32, 105, 116], [0, 255], [97, 32, 98]]
theorem spec_l05Text.says (h : spec_l05Text.k M) {R : List (List T)} (hR : Bytes R) (i : Nat) (q : Int) (hi : i ≤ R.length) :
    ∃ (s : List UInt8) (i' : Nat) (q' : Int), s.length ≤ 60 ∧ i' ≤ R.length ∧ run M 174 [.c (.ptr 0 0 0 0)] [curD R i q] = some (.c (S s), [curD R i' q']) := by
  obtain ⟨hm, k1⟩ := h
  obtain ⟨s, i1, q1, hs, hi1, h1⟩ := spec_l01Pick.says k1 hR i q hi texts5 (by decide) (by decide)
  refine ⟨s, i1, q1, ?_, hi1, ?_⟩
  · have : ∀ s ∈ texts5, s.length ≤ 60 := by decide
    exact this s hs
  · refine run_code (b := spec_l05Text.m) hm ⟨0, ?_⟩
    simp only [texts5, List.map_cons, List.map_nil, bs] at h1 ⊢
    simp (maxSteps := 1000000) [exB, spec_l05Text.m, spec_l05Text.b, List.range_succ, bs_get, setAt, h1]
end Mx

namespace Mx
open Go
variable {M : Nat → Option Body}
def byteAt (R : List (List T)) (i : Nat) : Int := match R[i]? with
  | some [.int _ n] => IntKind.i64.wrap n
  | _ => 0
def hAt (R : List (List T)) : Nat → Int
  | 0 => 77201 + R.length
  | i + 1 => andI .i64 (IntKind.i64.wrap (IntKind.i64.wrap (IntKind.i64.wrap (hAt R i * 131) + byteAt R i) + 7)) 1073741823
def lnN (R : List (List T)) : Nat := min R.length 4000
def lnS (R : List (List T)) (i : Nat) (x : Nat) : St := { t := [(0, .c (.sl false 1 R)), (3, .c (I (hAt R i))), (4, .c (I i))], o := [], n := x }
def lnE (R : List (List T)) (x : Nat) : St := { t := [(0, .c (.sl false 1 R)), (3, .c (I (hAt R (lnN R)))), (4, .c (I (lnN R))), (15, .c (.bool false))], o := [], n := x }
theorem spec_l01New.says (h : spec_l01New.k M) {R : List (List T)} (hR : Bytes R) :
    ∃ q : Int, run M 124 [.c (.sl false 1 R)] [] = some (.c (.vp [.sl false 1 R, I 0, I q] 0), []) := by
  refine ⟨hAt R (lnN R), run_code (b := spec_l01New.m) h ⟨lnN R + 1, ?_⟩⟩
  have hl := hR.1
  obtain ⟨g, hr⟩ := count_loop (f := exC (run M) (lnN R + 1) spec_l01New.l0) (lnN R) (lnS R) 0 (lnE R)
    (fun i hi x => by
      have h1 : i < R.length := by unfold lnN at hi; omega
      have h2 : i < 4000 := by unfold lnN at hi; omega
      have h3 : (i : Int) < 4000 := by omega
      obtain ⟨n, hn⟩ := hR.2 i R[i] (List.getElem?_eq_getElem h1)
      have hb : byteAt R i = IntKind.i64.wrap n := by simp [byteAt, h1, hn]
      have e3 := wrap1 (i := i) (by omega)
      simp only [lnS, hAt, hb]
      generalize hAt R i = q
      simp (maxSteps := 1000000) [spec_l01New.l0, List.range_succ, bs_get, setAt, h1, h2, h3, hn, e3])
    (fun x => by
      simp only [lnS, lnE]
      generalize hAt R (lnN R) = q
      by_cases c : R.length < 4000
      · have e : lnN R = R.length := by unfold lnN; omega
        rw [e]
        simp (maxSteps := 1000000) [spec_l01New.l0, List.range_succ, bs_get, setAt]
      · have e : lnN R = 4000 := by unfold lnN; omega
        rw [e]
        simp only [Int.cast_ofNat_Int]
        by_cases c2 : 4000 < R.length
        · have c3 : (4000 : Int) < (R.length : Int) := by omega
          simp (maxSteps := 1000000) [spec_l01New.l0, List.range_succ, bs_get, setAt, c2, c3]
        · have c3 : ¬ (4000 : Int) < (R.length : Int) := by omega
          simp (maxSteps := 1000000) [spec_l01New.l0, List.range_succ, bs_get, setAt, c2, c3])
  simp only [lnS, lnE, hAt] at hr
  generalize hAt R (lnN R) = q at *
  simp at hr
  have e : IntKind.i64.wrap (77201 + (R.length : Int)) = 77201 + (R.length : Int) := wrap_i64 (by omega) (by omega)
  simp (maxSteps := 1000000) [exB, spec_l01New.m, spec_l01New.b, List.range_succ, bs_get, setAt, hr, e]
end Mx

namespace Mx
open Go
variable {M : Nat → Option Body}
structure PlS where
  i : Nat
  rows : List (List T)
  v : Nat
  vc : Nat
  ic : Nat
  q : Int
  n : Nat
theorem PlS.ex {p : PlS → Prop} : (∃ s, p s) ↔ ∃ i rows v vc ic q n, p ⟨i, rows, v, vc, ic, q, n⟩ := ⟨fun ⟨⟨i, rows, v, vc, ic, q, n⟩, h⟩ => ⟨i, rows, v, vc, ic, q, n, h⟩, fun ⟨i, rows, v, vc, ic, q, n, h⟩ => ⟨⟨i, rows, v, vc, ic, q, n⟩, h⟩⟩
def plO (R : List (List T)) (s : PlS) : List (Nat × Ob) := [(10, ⟨s.v, 1, true, false, s.rows⟩), (10700, ⟨s.vc, 3, true, true, [[.sl false 1 R, I s.ic, I s.q]]⟩)]
def plS (R : List (List T)) (s : PlS) : St := { t := [(3, .c (.ptr 10700 s.vc 0 0)), (4, .c (.row 10 s.v 0 s.i)), (5, .c (I s.i))], o := plO R s, n := s.n }
def plE (R : List (List T)) (s : PlS) : St := { t := [(3, .c (.ptr 10700 s.vc 0 0)), (4, .c (.row 10 s.v 0 s.i)), (5, .c (I s.i)), (12, .c (.bool false))], o := plO R s, n := s.n }
structure PlI (R : List (List T)) (s : PlS) : Prop where
  i : s.i ≤ 12
  l : s.rows.length = s.i
  r : ∀ r ∈ s.rows, ∃ x : Nat, x < 10000 ∧ r = [I x]
  c : s.ic ≤ R.length
theorem pl_turn (hb : spec_l01Below.k M) {R : List (List T)} (hR : Bytes R) (k : Nat) (s : PlS) (hs : PlI R s) :
    (∃ s', exC (run M) k spec_DrawPlaces.l0 (plS R s) = some (.normal, plS R s') ∧ PlI R s' ∧ 12 - s'.i < 12 - s.i) ∨
      (∃ r, exC (run M) k spec_DrawPlaces.l0 (plS R s) = some r ∧ r.1 ≠ .normal ∧ ∃ s', r = (.exit 0, plE R s') ∧ s'.i = 12 ∧ PlI R s') := by
  obtain ⟨i, rows, v, vc, ic, q, n⟩ := s
  obtain ⟨hi, hl, hr, hc⟩ := hs
  simp only at hi hl hr hc
  obtain ⟨x, ic', q', hx, hic, h1⟩ := spec_l01Below.says hb hR ic q hc 10000 (by omega) (by omega)
  simp only [Int.cast_ofNat_Int] at h1
  by_cases hlt : i < 12
  · left
    have hlt2 : (i : Int) < 12 := by omega
    have e3 := wrap1 (i := i) (by omega)
    have e4 : rows.take i = rows := List.take_of_length_le (by omega)
    have e5 : i + 1 ≤ 4294967296 := by omega
    have e6 : i ≤ rows.length := by omega
    have hh : ∃ v' n', exC (run M) k spec_DrawPlaces.l0 (plS R ⟨i, rows, v, vc, ic, q, n⟩) = some (.normal, plS R ⟨i + 1, rows ++ [[I x]], v', vc, ic', q', n'⟩) := by
      simp only [plS, plO]
      simp (maxSteps := 1000000) [spec_DrawPlaces.l0, List.range_succ, bs_get, setAt, h1, hl, hlt, hlt2, e3, e4, e5, e6]
    obtain ⟨v', n', hh⟩ := hh
    refine ⟨_, hh, ⟨by simp only; omega, by simp [hl], fun r hr' => ?_, hic⟩, by simp only; omega⟩
    rcases List.mem_append.1 hr' with h | h
    · exact hr r h
    · simp only [List.mem_singleton] at h
      exact ⟨x, hx, h⟩
  · right
    have hlt2 : ¬ (i : Int) < 12 := by omega
    refine ⟨(.exit 0, plE R ⟨i, rows, v, vc, ic, q, n + 32⟩), ?_, by simp, ⟨i, rows, v, vc, ic, q, n + 32⟩, rfl, by simp only; omega, ⟨hi, hl, hr, hc⟩⟩
    simp only [plS, plE, plO]
    simp (maxSteps := 1000000) [spec_DrawPlaces.l0, List.range_succ, bs_get, setAt, hlt, hlt2]
theorem spec_DrawPlaces.says (h : spec_DrawPlaces.k M) {R : List (List T)} (hR : Bytes R) :
    ∃ rows : List (List T), rows.length = 12 ∧ (∀ r ∈ rows, ∃ x : Nat, x < 10000 ∧ r = [I x]) ∧ run M 40 [.c (.sl false 1 R)] [] = some (.c (.sl true 1 rows), []) := by
  obtain ⟨h0, k1, k2, k3⟩ := h
  obtain ⟨q0, h1⟩ := spec_l01New.says k1 hR
  obtain ⟨x, ic, q, hx, hic, h2⟩ := spec_l01Byte.says k3 hR 0 q0 (Nat.zero_le _)
  obtain ⟨r, hr, ⟨⟨i, rows, v, vc, ic', q', n⟩, rfl, hi, hI⟩⟩ := loop_ex (f := exC (run M) 13 spec_DrawPlaces.l0) (plS R) (PlI R) (fun s => 12 - s.i) (fun r => ∃ s', r = (.exit 0, plE R s') ∧ s'.i = 12 ∧ PlI R s')
    (fun s hs => pl_turn k2 hR 13 s hs) 13 ⟨0, [], 2000096, 2000032, ic, q, 2000144⟩ ⟨by simp, by simp, by simp, hic⟩ (by simp)
  obtain ⟨_, hl, hr', _⟩ := hI
  simp only at hi hl hr'
  refine ⟨rows, by omega, hr', run_code (b := spec_DrawPlaces.m) h0 ⟨13, ?_⟩⟩
  have e : rows.take i = rows := List.take_of_length_le (by omega)
  have e2 : i ≤ rows.length := by omega
  simp only [plS, plE, plO] at hr
  simp at hr
  have e0 : ((0 : Nat) : Int) = 0 := rfl
  simp only [curD, e0] at h2
  simp (maxSteps := 1000000) [exB, spec_DrawPlaces.m, spec_DrawPlaces.b, List.range_succ, bs_get, setAt, hr, h1, h2, e, e2]
end Mx

namespace Mx
open Go
variable {M : Nat → Option Body}
def shS (l : List Reg) (n t w : Int) (i : Nat) (x : Nat × Nat × Nat) : St := { t := [(1, .c (I n)), (5, .c (.ptr 5 x.1 0 0)), (7, .c (.row 11100 x.2.1 0 l.length)), (8, .c (I i))], o := [(5, ⟨x.1, 2, true, true, [[I t, I w]]⟩), (11100, ⟨x.2.1, 3, true, false, (setTo l n t w i).map encReg⟩)], n := x.2.2 }
def shE (l : List Reg) (n t w : Int) (x : Nat × Nat × Nat) : St := { t := [(1, .c (I n)), (5, .c (.ptr 5 x.1 0 0)), (7, .c (.row 11100 x.2.1 0 l.length)), (8, .c (I l.length)), (24, .c (.bool false))], o := [(5, ⟨x.1, 2, true, true, [[I t, I w]]⟩), (11100, ⟨x.2.1, 3, true, false, (setTo l n t w l.length).map encReg⟩)], n := x.2.2 }
theorem spec_SetFlags.turn (k : spec_PutReg.k M) (l : List Reg) (n t w : Int) (K i : Nat) (hn : 0 ≤ n) (hl : l.length = 3) (hi : i < l.length) (x : Nat × Nat × Nat) :
    ∃ y, exC (run M) K spec_SetFlags.l0 (shS l n t w i x) = some (.normal, shS l n t w (i + 1) y) := by
  obtain ⟨v, u, x⟩ := x
  have e5 := wrap1 (i := i) (by omega)
  have h1 := spec_PutReg.says k l[i] (bitOf n i) t w
  have hlen : ((setTo l n t w i).map encReg).length = l.length := by simp [setTo_len]
  have hi2 : i < ((setTo l n t w i).map encReg).length := by omega
  have hat : ((setTo l n t w i).map encReg)[i]'hi2 = encReg l[i] := by rw [List.getElem_map, setTo_at]
  have hset : (setTo l n t w (i + 1)).map encReg = ((setTo l n t w i).map encReg).set i (encReg (setFlag n t w i l[i])) := by rw [setTo_succ _ _ _ _ _ hi, List.map_set]
  have hmin : Min.min i 64 = i := by omega
  have hu : IntKind.u64.wrap (i : Int) = i := by unfold IntKind.wrap; simp [IntKind.bits, IntKind.signed]; omega
  have hdiv : 0 ≤ n.fdiv ((2 ^ i : Nat) : Int) := Int.fdiv_nonneg hn (Int.natCast_nonneg _)
  have hbit : (n.fdiv ((2 ^ i : Nat) : Int)).tmod 2 = bitOf n i := by
    unfold bitOf; exact Int.tmod_eq_emod_of_nonneg hdiv
  have hbit2 : (n.fdiv (2 ^ i)).tmod 2 = bitOf n i := by rw [← hbit]; norm_cast
  have hii : (i : Int) < 3 := by omega
  have h3 : i < 3 := by omega
  have hng : ¬ (i : Int) < 0 := by omega
  simp only [shS, hset, setFlag, Prod.exists]
  generalize (setTo l n t w i).map encReg = rr at *
  simp only [encReg] at h1 hat
  by_cases c : l[i].val = bitOf n i
  · rw [if_pos c]
    have hself : rr.set i [I l[i].val, I l[i].time, I l[i].who] = rr := by
      apply List.ext_getElem?
      intro j
      rw [List.getElem?_set]
      split
      · rename_i hj; subst hj; simp [hi2, hat]
      · rfl
    rw [hself]
    simp (maxSteps := 1000000) [spec_SetFlags.l0, List.range_succ, bs_get, setAt, hl, hlen, hat, e5, hu, hmin, hbit, hbit2, hii, h3, hng, c, encReg, IntKind.bits]
  · rw [if_neg c]
    simp (maxSteps := 1000000) [spec_SetFlags.l0, List.range_succ, bs_get, setAt, hl, hlen, hat, e5, hu, hmin, hbit, hbit2, hii, h3, hng, c, h1, encReg, IntKind.bits]
theorem spec_SetFlags.says (h : spec_SetFlags.k M) (l : List Reg) (n t w : Int) (hl : l.length ≤ 1048576) : run M 184 [.c (regs l), .c (I n), .a [I t, I w]] [] = some (.c (.sl true 3 ((setFlags l n t w).map encReg)), []) := by
  obtain ⟨h0, k1, k3, k2, k4⟩ := h
  have h1 := spec_l01In.inR k1 n 0 7
  have h2 := spec_FlagsOk.says k2 l hl
  have h3 := spec_l04Copy.says k3 l hl
  refine run_code (b := spec_SetFlags.m) h0 ⟨4, ?_⟩
  have e7 : (l.map encReg).length = l.length := by simp
  have e8 : (l.map encReg).all (fun r => r.all T.scalar) = true := by simp [T.scalar]
  unfold setFlags
  simp only [regs] at *
  cases c1 : flagsOk l
  · simp only [Bool.false_eq_true, false_and, if_false]
    generalize l.map encReg = r at *
    simp (maxSteps := 1000000) [exB, spec_SetFlags.m, spec_SetFlags.b, List.range_succ, bs_get, setAt, h2, h3, c1, e7, e8, List.take_of_length_le]
  cases c2 : inR 0 n 7
  · simp only [Bool.false_eq_true, and_false, if_false]
    generalize l.map encReg = r at *
    simp (maxSteps := 1000000) [exB, spec_SetFlags.m, spec_SetFlags.b, List.range_succ, bs_get, setAt, h1, h2, h3, c1, c2, e7, e8, List.take_of_length_le]
  have hl3 := (flagsOk_regs c1).1
  obtain ⟨g, hr⟩ := count_loop (f := exC (run M) 4 spec_SetFlags.l0) l.length (shS l n t w) 0 (shE l n t w)
    (fun i hi x => spec_SetFlags.turn k4 l n t w 4 i (inR_iff.1 c2).1 hl3 hi x)
    (fun x => by
      obtain ⟨v, u, x⟩ := x
      simp only [shS, shE, Prod.exists]
      generalize (setTo l n t w l.length).map encReg = rr
      simp (maxSteps := 1000000) [spec_SetFlags.l0, List.range_succ, bs_get, setAt])
  have e9 : ((setTo l n t w l.length).map encReg).length = l.length := by simp [setTo_len]
  simp only [true_and, if_true]
  rw [← setTo_all]
  simp only [shS, shE, setTo_zero] at hr
  generalize (setTo l n t w l.length).map encReg = rr at *
  generalize l.map encReg = r at *
  simp [hl3] at hr
  simp (maxSteps := 1000000) [exB, spec_SetFlags.m, spec_SetFlags.b, List.range_succ, bs_get, setAt, hr, h1, h2, h3, c1, c2, e7, e8, e9, hl3, List.take_of_length_le]
end Mx

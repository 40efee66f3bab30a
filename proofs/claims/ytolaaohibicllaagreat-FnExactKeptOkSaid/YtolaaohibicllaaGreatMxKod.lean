/-
  What more of the functions compute, each by a small evaluation; no condition beyond what each says.
-/
import Derived.Test.YtolaaohibicllaaGreatMxKoc
set_option maxHeartbeats 16000000
set_option linter.unusedSimpArgs false
set_option linter.unusedVariables false
namespace Mx
open Go
def eW.b:C:= .seq (.ai [Qv 1 0,Qb 2 false] [1] [1])
 (.seq (.seq (.ai [Qf 5 0 1,Ql 6 5] [1,6] [1])
 (.block 0 (.seq (.seq (.ai [Q 8 (.bin .eql (.t 6) (kI 1)),Qm 7 8] [1,6,7] [1])
 (.cond (.t 7) (.skip) (.ai [Q 9 (.bin .eql (.t 6) (kI 2)),Qm 7 9] [1,6,7] [1])))
 (.cond (.t 7) (.seq (.ai [Qf 10 4 1,Ql 11 10,Q 12 (.call 90 [.t 11] [] []),Qm 2 12] [2] [])
 (.ret)) (.seq (.ai [Q 14 (.bin .eql (.t 6) (kI 4)),Qm 13 14] [1,6,13] [1])
 (.cond (.t 13) (.seq (.ai [Qf 15 4 1,Ql 16 15,Q 17 (.ky (.t 16)),Q 18 (.bin .leq (.t 17) (kI 60)),Qm 2 18] [2] [])
 (.ret)) (.seq (.ai [Q 20 (.bin .eql (.t 6) (kI 7)),Qm 19 20] [1,19] [1])
 (.cond (.t 19) (.seq (.ai [Qf 22 4 1,Ql 23 22,Q 24 (.call 75 [.t 23] [] []),Qm 21 24,Qx 25 0 21,Qx 26 1 21,Q 3 (.alloc [.int .i64 0,.int .i64 0,.aL 7,.aL 1]),Qs 4 3 25,Qm 4 26] [4] [])
 (.seq (.ai [Qm 27 4,Qm 2 27] [2] [])
 (.ret))) (.skip)))))))))
 (.seq (.ai [Qf 28 4 1,Ql 29 28,Q 30 (.bin .eql (.t 29) (.k (.str ⟨#[]⟩))),Qm 2 30] [2] [])
 (.ret)))
def eW.m:Fn:={np:=1,body:=eW.b,res:=[.tmp 2]}
def eW.k(M:Nat→Option Body):Prop:=M 146=some (.code eW.m)∧bh.k M∧dI.k M
def aV.b:C:= .seq (.ai [Qv 1 0,Qb 2 false] [1] [1])
 (.seq (.seq (.ai [Qf 6 0 1,Ql 7 6,Q 8 (.call 98 [.t 7,kI 1,kI 7] [] []),Q 9 (.not (.t 8))] [1,9] [1])
 (.cond (.t 9) (.seq (.ai [Qb 2 false] [2] [])
 (.ret)) (.skip)))
 (.seq (.ai [Qf 10 0 1,Ql 11 10,Q 12 (.bin .eql (.t 11) (kI 7)),Qm 3 12] [1,3] [1])
 (.seq (.ai [Qf 13 0 1,Ql 14 13,Q 15 (.bin .eql (.t 14) (kI 4)),Qm 16 15,Qg 17 (.bN 0 (.t 1)) 16 false,Qg 18 (.load false 1 (.t 17)) 16 false,Qg 19 (.bin .eql (.t 18) (kI 5)) 16 false,
   Q 20 (.pick (.t 16) (kB true) (.t 19)),Qm 21 20,Qg 22 (.bN 0 (.t 1)) 21 false,Qg 23 (.load false 1 (.t 22)) 21 false,Qg 24 (.bin .eql (.t 23) (kI 6)) 21 false,
   Q 25 (.pick (.t 21) (kB true) (.t 24)),Qm 4 25] [1,3,4] [1])
 (.seq (.ai [Qf 26 0 1,Ql 27 26,Q 28 (.bin .eql (.t 27) (kI 4)),Qm 29 28,Qg 30 (.bN 0 (.t 1)) 29 false,Qg 31 (.load false 1 (.t 30)) 29 false,Qg 32 (.bin .eql (.t 31) (kI 5)) 29 false,
   Q 33 (.pick (.t 29) (kB true) (.t 32)),Qm 5 33] [1,3,4,5] [1])
 (.seq (.seq (.ai [Qm 34 3,Qm 35 34,Qg 36 (.bN 1 (.t 1)) 35 true,Qg 37 (.load false 1 (.t 36)) 35 true,Qg 38 (.bin .neq (.t 37) (kI 0)) 35 true,Q 39 (.pick (.t 35) (.t 38) (kB false)),
   Qm 40 39,Qg 41 (.mv (.t 3)) 40 false,Qg 42 (.not (.t 41)) 40 false,Qg 43 (.mv (.t 42)) 40 false,Qg 44 (.bN 1 (.t 1)) 43 true,Qg 45 (.load false 1 (.t 44)) 43 true,
   Qg 46 (.call 98 [.t 45,kI 1,kI 9999] [] []) 43 true,Qg 47 (.not (.t 46)) 43 true,Qg 48 (.pick (.t 43) (.t 47) (kB false)) 40 false,Q 49 (.pick (.t 40) (kB true) (.t 48)),
   Qm 50 49,Qg 51 (.mv (.t 4)) 50 false,Qg 52 (.mv (.t 51)) 50 false,Qg 53 (.bN 2 (.t 1)) 52 true,Qg 54 (.load false 1 (.t 53)) 52 true,
   Qg 55 (.call 98 [.t 54,kI 1,kI 9999] [] []) 52 true,Qg 56 (.not (.t 55)) 52 true,Qg 57 (.pick (.t 52) (.t 56) (kB false)) 50 false,Q 58 (.pick (.t 50) (kB true) (.t 57)),
   Qm 59 58,Qg 60 (.mv (.t 4)) 59 false,Qg 61 (.not (.t 60)) 59 false,Qg 62 (.mv (.t 61)) 59 false,Qg 63 (.bN 2 (.t 1)) 62 true,Qg 64 (.load false 1 (.t 63)) 62 true,
   Qg 65 (.bin .neq (.t 64) (kI 0)) 62 true,Qg 66 (.pick (.t 62) (.t 65) (kB false)) 59 false,Q 67 (.pick (.t 59) (kB true) (.t 66))] [1,5,67] [1])
 (.cond (.t 67) (.seq (.ai [Qb 2 false] [2] [])
 (.ret)) (.skip)))
 (.seq (.seq (.ai [Qm 68 5,Qm 69 68,Qg 70 (.bN 3 (.t 1)) 69 true,Qg 71 (.load false 1 (.t 70)) 69 true,Qg 72 (.call 98 [.t 71,kI 0,kI 7] [] []) 69 true,Qg 73 (.not (.t 72)) 69 true,
   Q 74 (.pick (.t 69) (.t 73) (kB false)),Qm 75 74,Qg 76 (.mv (.t 5)) 75 false,Qg 77 (.not (.t 76)) 75 false,Qg 78 (.mv (.t 77)) 75 false,Qg 79 (.bN 3 (.t 1)) 78 true,
   Qg 80 (.load false 1 (.t 79)) 78 true,Qg 81 (.bin .neq (.t 80) (kI 0)) 78 true,Qg 82 (.pick (.t 78) (.t 81) (kB false)) 75 false,Q 83 (.pick (.t 75) (kB true) (.t 82))] [1,83] [1])
 (.cond (.t 83) (.seq (.ai [Qb 2 false] [2] [])
 (.ret)) (.skip)))
 (.seq (.ai [QL 84 5 1,Q 85 (.call 146 [.t 84] [] []),Qm 2 85] [2] [])
 (.ret))))))))
def aV.m:Fn:={np:=1,body:=aV.b,res:=[.tmp 2]}
def aV.k(M:Nat→Option Body):Prop:=M 58=some (.code aV.m)∧bE.k M∧eW.k M
def aN.b:C:= .seq (.ai [Qv 1 0,Qb 2 false] [1] [1])
 (.seq (.ai [Qf 7 0 1,Ql 8 7,Qf 9 1 1,Ql 10 9,Q 11 (.build [.int .i64 0,.int .i64 0,.int .i64 0,.int .i64 0,.str ⟨#[]⟩] [(0,1,.t 8),(1,1,.t 10)]),
   Q 3 (.alloc [.int .i64 0,.int .i64 0,.int .i64 0,.int .i64 0,.str ⟨#[]⟩]),Qs 5 3 11] [1,3] [1,3])
 (.seq (.ai [Qf 12 1 1,Ql 13 12,Q 14 (.call 147 [.t 13] [] []),Qm 4 14] [1,3,4] [1,3])
 (.seq (.seq (.ai [Qf 15 0 1,Ql 16 15] [1,3,4,16] [1,3])
 (.block 0 (.seq (.seq (.ai [Q 18 (.bin .eql (.t 16) (kI 1)),Qm 17 18] [1,3,4,16,17] [1,3])
 (.cond (.t 17) (.skip) (.ai [Q 19 (.bin .eql (.t 16) (kI 2)),Qm 17 19] [1,3,4,16,17] [1,3])))
 (.cond (.t 17) (.seq (.ai [Qf 20 4 1,Ql 21 20,Qf 22 4 3,Qs 1 22 21] [1,3,4] [1,3])
 (.seq (.ai [Qm 23 4,Qm 24 23,Qg 25 (.load true 5 (.t 1)) 24 true,Qg 26 (.load true 5 (.t 3)) 24 true,Qg 27 (.eqs false [.int,.int,.int,.int,.str] (.t 25) (.t 26)) 24 true,
   Q 28 (.pick (.t 24) (.t 27) (kB false)),Qm 29 28,Qg 30 (.bN 4 (.t 1)) 29 true,Qg 31 (.load false 1 (.t 30)) 29 true,Qg 32 (.call 89 [.t 31] [] []) 29 true,
   Q 33 (.pick (.t 29) (.t 32) (kB false)),Qm 2 33] [2] [])
 (.ret))) (.seq (.ai [Q 35 (.bin .eql (.t 16) (kI 3)),Qm 34 35] [1,3,4,16,34] [1,3])
 (.cond (.t 34) (.seq (.ai [Qm 36 4,Qm 37 36,Qg 38 (.load true 5 (.t 1)) 37 true,Qg 39 (.load true 5 (.t 3)) 37 true,Qg 40 (.eqs false [.int,.int,.int,.int,.str] (.t 38) (.t 39)) 37 true,
   Q 41 (.pick (.t 37) (.t 40) (kB false)),Qm 2 41] [2] [])
 (.ret)) (.seq (.ai [Q 43 (.bin .eql (.t 16) (kI 4)),Qm 42 43] [1,3,4,16,42] [1,3])
 (.cond (.t 42) (.seq (.ai [Qm 44 4,Qm 45 44,Qg 46 (.bN 2 (.t 1)) 45 true,Qg 47 (.load false 1 (.t 46)) 45 true,Qg 48 (.call 147 [.t 47] [] []) 45 true,Q 49 (.pick (.t 45) (.t 48) (kB false)),
   Qm 50 49,Qg 51 (.bN 3 (.t 1)) 50 true,Qg 52 (.load false 1 (.t 51)) 50 true,Qg 53 (.call 148 [.t 52] [] []) 50 true,Q 54 (.pick (.t 50) (.t 53) (kB false)),Qm 55 54,
   Qg 56 (.bN 4 (.t 1)) 55 true,Qg 57 (.load false 1 (.t 56)) 55 true,Qg 58 (.ky (.t 57)) 55 true,Qg 59 (.bin .leq (.t 58) (kI 60)) 55 true,
   Q 60 (.pick (.t 55) (.t 59) (kB false)),Qm 2 60] [2] [])
 (.ret)) (.seq (.ai [Q 62 (.bin .eql (.t 16) (kI 5)),Qm 61 62] [1,3,4,16,61] [1,3])
 (.cond (.t 61) (.seq (.ai [Qf 63 2 1,Ql 64 63,Qf 65 2 3,Qs 1 65 64] [1,3,4] [1,3])
 (.seq (.ai [Qf 66 3 1,Ql 67 66,Qf 68 3 3,Qs 1 68 67] [1,3,4] [1,3])
 (.seq (.ai [Qm 69 4,Qm 70 69,Qg 71 (.load true 5 (.t 1)) 70 true,Qg 72 (.load true 5 (.t 3)) 70 true,Qg 73 (.eqs false [.int,.int,.int,.int,.str] (.t 71) (.t 72)) 70 true,
   Q 74 (.pick (.t 70) (.t 73) (kB false)),Qm 75 74,Qg 76 (.bN 2 (.t 1)) 75 true,Qg 77 (.load false 1 (.t 76)) 75 true,Qg 78 (.call 147 [.t 77] [] []) 75 true,
   Q 79 (.pick (.t 75) (.t 78) (kB false)),Qm 80 79,Qg 81 (.bN 3 (.t 1)) 80 true,Qg 82 (.load false 1 (.t 81)) 80 true,Qg 83 (.call 148 [.t 82] [] []) 80 true,
   Q 84 (.pick (.t 80) (.t 83) (kB false)),Qm 2 84] [2] [])
 (.ret)))) (.seq (.ai [Q 86 (.bin .eql (.t 16) (kI 6)),Qm 85 86] [1,3,4,16,85] [1,3])
 (.cond (.t 85) (.seq (.ai [Qf 87 2 1,Ql 88 87,Qf 89 2 3,Qs 1 89 88] [1,3,4] [1,3])
 (.seq (.ai [Qm 90 4,Qm 91 90,Qg 92 (.load true 5 (.t 1)) 91 true,Qg 93 (.load true 5 (.t 3)) 91 true,Qg 94 (.eqs false [.int,.int,.int,.int,.str] (.t 92) (.t 93)) 91 true,
   Q 95 (.pick (.t 91) (.t 94) (kB false)),Qm 96 95,Qg 97 (.bN 2 (.t 1)) 96 true,Qg 98 (.load false 1 (.t 97)) 96 true,Qg 99 (.call 147 [.t 98] [] []) 96 true,
   Q 100 (.pick (.t 96) (.t 99) (kB false)),Qm 2 100] [2] [])
 (.ret))) (.seq (.ai [Q 102 (.bin .eql (.t 16) (kI 7)),Qm 101 102] [1,101] [1])
 (.cond (.t 101) (.seq (.ai [Qf 104 4 1,Ql 105 104,Q 106 (.call 76 [.t 105] [] []),Qm 103 106,Qx 107 0 103,Qx 108 1 103,Q 5 (.alloc [.int .i64 0,.int .i64 0,.aL 7,.aL 1]),Qs 4 5 107,Qm 6 108] [1,6] [1])
 (.seq (.ai [Qm 109 6,Qm 110 109,Qg 111 (.load true 5 (.t 1)) 110 true,Qg 112 (.bN 4 (.t 1)) 110 true,Qg 113 (.load false 1 (.t 112)) 110 true,
   Qg 114 (.build [.int .i64 0,.int .i64 0,.int .i64 0,.int .i64 0,.str ⟨#[]⟩] [(0,1,kI 7),(4,1,.t 113)]) 110 true,
   Qg 115 (.eqs false [.int,.int,.int,.int,.str] (.t 111) (.t 114)) 110 true,Q 116 (.pick (.t 110) (.t 115) (kB false)),Qm 2 116] [2] [])
 (.ret))) (.skip)))))))))))))))
 (.seq (.ai [Qb 2 false] [2] [])
 (.ret)))))
def aN.m:Fn:={np:=1,body:=aN.b,res:=[.tmp 2]}
def aN.k(M:Nat→Option Body):Prop:=M 59=some (.code aN.m)∧bB.k M∧dP.k M∧gg.k M∧fF.k M
def ee.b:C:= .seq (.ai [Q 2 (.alloc [.int .i64 0,.int .i64 0,.int .i64 0,.int .i64 0,.str ⟨#[]⟩]),Qb 3 false] [0,2] [2])
 (.seq (.seq (.ai [Qm 6 0,Q 7 (.bin .eql (.t 6) (.k (.str ⟨#[]⟩)))] [0,2,7] [2])
 (.cond (.t 7) (.seq (.ai [Q 8 (.build [.int .i64 0,.int .i64 0,.int .i64 0,.int .i64 0,.str ⟨#[]⟩] []),Qs 5 2 8,Qb 3 false] [2,3] [2])
 (.ret)) (.skip)))
 (.seq (.ai [Qm 9 0,Q 10 (.build [.str ⟨#[]⟩,.int .i64 0,.bool false] [(0,1,.t 9),(1,1,kI 1)]),Qv 11 10,Qm 4 11] [0,2,4] [2,11])
 (.seq (.gV [Qm 12 0,Q 13 (.idx (.t 12) (kI 0)),Q 14 (.ry .i64 (.t 13)),Qm 15 4,Q 16 (.call 139 [.t 15] [0] []),
   Q 17 (.build [.int .i64 0,.int .i64 0,.int .i64 0,.int .i64 0,.str ⟨#[]⟩] [(0,1,.t 14),(1,1,.t 16)]),
   Q 5 (.alloc [.int .i64 0,.int .i64 0,.int .i64 0,.int .i64 0,.str ⟨#[]⟩]),Qs 5 5 17] [[],[0],[0,1],[],[3],lr 5,[],lr 7] [0,2,4,5] [2,5,11])
 (.seq (.ai [Qm 18 4,Q 19 (.call 139 [.t 18] [0] []),Qf 20 2 5,Qs 1 20 19] [0,2,4,5] [2,5,11])
 (.seq (.ai [Qm 21 4,Q 22 (.call 139 [.t 21] [0] []),Qf 23 3 5,Qs 1 23 22] [0,2,4,5] [2,5,11])
 (.seq (.ai [Qm 24 4,Q 25 (.call 140 [.t 24] [0] []),Qf 26 4 5,Qs 1 26 25] [0,2,4,5] [2,5,11])
 (.seq (.seq (.ai [Qm 27 4,Q 28 (.lq (.t 27)),Qf 29 2 28,Ql 30 29,Qm 31 30,Qg 32 (.mv (.t 4)) 31 false,Qg 33 (.lq (.t 32)) 31 false,Qg 34 (.bN 1 (.t 33)) 31 false,
   Qg 35 (.load false 1 (.t 34)) 31 false,Qg 36 (.mv (.t 0)) 31 false,Qg 37 (.ky (.t 36)) 31 false,Qg 38 (.bin .neq (.t 35) (.t 37)) 31 false,
   Q 39 (.pick (.t 31) (kB true) (.t 38)),Qm 40 39,Qg 41 (.load true 5 (.t 5)) 40 false,Qg 42 (.call 58 [.t 41] [] []) 40 false,Qg 43 (.not (.t 42)) 40 false,
   Q 44 (.pick (.t 40) (kB true) (.t 43))] [2,5,44] [2,5])
 (.cond (.t 44) (.seq (.ai [Q 45 (.build [.int .i64 0,.int .i64 0,.int .i64 0,.int .i64 0,.str ⟨#[]⟩] []),Qs 5 2 45,Qb 3 false] [2,3] [2])
 (.ret)) (.skip)))
 (.seq (.ai [QL 46 5 5,Qs 5 2 46,Qb 3 true] [2,3] [2])
 (.ret)))))))))
def ee.m:Fn:={np:=1,body:=ee.b,res:=[.cell 2 true 5,.tmp 3]}
def ee.k(M:Nat→Option Body):Prop:=M 64=some (.code ee.m)∧aV.k M∧b9.k M∧fM.k M
def eT.b:C:= .seq (.ai [Q 2 (.alloc [.int .i64 0,.int .i64 0,.int .i64 0,.int .i64 0,.str ⟨#[]⟩]),Qb 3 false] [0,2] [2])
 (.seq (.seq (.ai [Qm 6 0,Q 7 (.bin .eql (.t 6) (.k (.str ⟨#[]⟩)))] [0,2,7] [2])
 (.cond (.t 7) (.seq (.ai [Q 8 (.build [.int .i64 0,.int .i64 0,.int .i64 0,.int .i64 0,.str ⟨#[]⟩] []),Qs 5 2 8,Qb 3 false] [2,3] [2])
 (.ret)) (.skip)))
 (.seq (.ai [Qm 9 0,Q 10 (.build [.str ⟨#[]⟩,.int .i64 0,.bool false] [(0,1,.t 9),(1,1,kI 1)]),Qv 11 10,Qm 4 11] [0,2,4] [2,11])
 (.seq (.gV [Qm 12 0,Q 13 (.idx (.t 12) (kI 0)),Q 14 (.ry .i64 (.t 13)),Qm 15 4,Q 16 (.call 152 [.t 15] [0] []),
   Q 17 (.build [.int .i64 0,.int .i64 0,.int .i64 0,.int .i64 0,.str ⟨#[]⟩] [(0,1,.t 14),(1,1,.t 16)]),
   Q 5 (.alloc [.int .i64 0,.int .i64 0,.int .i64 0,.int .i64 0,.str ⟨#[]⟩]),Qs 5 5 17] [[],[0],[0,1],[],[3],lr 5,[],lr 7] [0,2,4,5] [2,5,11])
 (.seq (.ai [Qm 18 4,Q 19 (.call 152 [.t 18] [0] []),Qf 20 2 5,Qs 1 20 19] [0,2,4,5] [2,5,11])
 (.seq (.ai [Qm 21 4,Q 22 (.call 152 [.t 21] [0] []),Qf 23 3 5,Qs 1 23 22] [0,2,4,5] [2,5,11])
 (.seq (.ai [Qm 24 4,Q 25 (.call 153 [.t 24] [0] []),Qf 26 4 5,Qs 1 26 25] [0,2,4,5] [2,5,11])
 (.seq (.seq (.ai [Qm 27 4,Q 28 (.lq (.t 27)),Qf 29 2 28,Ql 30 29,Qm 31 30,Qg 32 (.mv (.t 4)) 31 false,Qg 33 (.lq (.t 32)) 31 false,Qg 34 (.bN 1 (.t 33)) 31 false,
   Qg 35 (.load false 1 (.t 34)) 31 false,Qg 36 (.mv (.t 0)) 31 false,Qg 37 (.ky (.t 36)) 31 false,Qg 38 (.bin .neq (.t 35) (.t 37)) 31 false,
   Q 39 (.pick (.t 31) (kB true) (.t 38)),Qm 40 39,Qg 41 (.load true 5 (.t 5)) 40 false,Qg 42 (.call 59 [.t 41] [] []) 40 false,Qg 43 (.not (.t 42)) 40 false,
   Q 44 (.pick (.t 40) (kB true) (.t 43))] [2,5,44] [2,5])
 (.cond (.t 44) (.seq (.ai [Q 45 (.build [.int .i64 0,.int .i64 0,.int .i64 0,.int .i64 0,.str ⟨#[]⟩] []),Qs 5 2 45,Qb 3 false] [2,3] [2])
 (.ret)) (.skip)))
 (.seq (.ai [QL 46 5 5,Qs 5 2 46,Qb 3 true] [2,3] [2])
 (.ret)))))))))
def eT.m:Fn:={np:=1,body:=eT.b,res:=[.cell 2 true 5,.tmp 3]}
def eT.k(M:Nat→Option Body):Prop:=M 65=some (.code eT.m)∧aN.k M∧bL.k M∧dX.k M
def cM.b:C:= .seq (.ai [Qv 2 0,Qv 3 1,Q 4 (.alloc [.int .i64 0,.int .i64 0,.aL 7,.aL 1]),Qb 5 false] [2,3,4] [2,3,4])
 (.seq (.seq (.ai [QL 8 5 3,Q 9 (.call 59 [.t 8] [] []),Q 10 (.not (.t 9))] [2,3,4,10] [2,3,4])
 (.cond (.t 10) (.seq (.ai [QL 11 4 2,Q 12 (.call 220 [.t 11] [] []),Qs 4 4 12,Qb 5 false] [4,5] [4])
 (.ret)) (.skip)))
 (.seq (.seq (.ai [Qf 13 0 3,Ql 14 13] [2,3,4,14] [2,3,4])
 (.block 0 (.seq (.ai [Q 16 (.bin .eql (.t 14) (kI 1)),Qm 15 16] [2,3,4,14,15] [2,3,4])
 (.cond (.t 15) (.seq (.ai [QL 17 4 2,Qf 18 1 3,Ql 19 18,Qf 20 4 3,Ql 21 20,Q 22 (.call 409 [.t 17,.t 19,.t 21] [] []),Qx 23 0 22,Qx 24 1 22,Qs 4 4 23,Qm 5 24] [4,5] [4])
 (.ret)) (.seq (.ai [Q 26 (.bin .eql (.t 14) (kI 2)),Qm 25 26] [2,3,4,14,25] [2,3,4])
 (.cond (.t 25) (.seq (.ai [QL 27 4 2,Qf 28 1 3,Ql 29 28,Qf 30 4 3,Ql 31 30,Q 32 (.call 411 [.t 27,.t 29,.t 31] [] []),Qx 33 0 32,Qx 34 1 32,Qs 4 4 33,Qm 5 34] [4,5] [4])
 (.ret)) (.seq (.ai [Q 36 (.bin .eql (.t 14) (kI 3)),Qm 35 36] [2,3,4,14,35] [2,3,4])
 (.cond (.t 35) (.seq (.ai [QL 37 4 2,Qf 38 1 3,Ql 39 38,Q 40 (.call 412 [.t 37,.t 39] [] []),Qx 41 0 40,Qx 42 1 40,Qs 4 4 41,Qm 5 42] [4,5] [4])
 (.ret)) (.seq (.ai [Q 44 (.bin .eql (.t 14) (kI 4)),Qm 43 44] [2,3,4,14,43] [2,3,4])
 (.cond (.t 43) (.seq (.ai [QL 45 4 2,Qf 46 1 3,Ql 47 46,Qf 48 2 3,Ql 49 48,Qf 50 3 3,Ql 51 50,Qf 52 4 3,Ql 53 52,Q 54 (.call 410 [.t 45,.t 47,.t 49,.t 51,.t 53] [] []),Qx 55 0 54,Qx 56 1 54,
   Qs 4 4 55,Qm 5 56] [4,5] [4])
 (.ret)) (.seq (.ai [Q 58 (.bin .eql (.t 14) (kI 5)),Qm 57 58] [2,3,4,14,57] [2,3,4])
 (.cond (.t 57) (.seq (.ai [QL 59 4 2,Qf 60 1 3,Ql 61 60,Qf 62 2 3,Ql 63 62,Qf 64 3 3,Ql 65 64,Q 66 (.call 428 [.t 59,.t 61,.t 63,.t 65] [] []),Qx 67 0 66,Qx 68 1 66,Qs 4 4 67,Qm 5 68] [4,5] [4])
 (.ret)) (.seq (.ai [Q 70 (.bin .eql (.t 14) (kI 6)),Qm 69 70] [2,3,4,69] [2,3,4])
 (.cond (.t 69) (.seq (.ai [QL 71 4 2,Qf 72 1 3,Ql 73 72,Qf 74 2 3,Ql 75 74,Q 76 (.call 429 [.t 71,.t 73,.t 75] [] []),Qx 77 0 76,Qx 78 1 76,Qs 4 4 77,Qm 5 78] [4,5] [4])
 (.ret)) (.skip)))))))))))))))
 (.seq (.ai [Qf 80 4 3,Ql 81 80,Q 82 (.call 76 [.t 81] [] []),Qm 79 82,Qx 83 0 79,Qx 84 1 79,Q 6 (.alloc [.int .i64 0,.int .i64 0,.aL 7,.aL 1]),Qs 4 6 83,Qm 7 84] [2,4,6] [2,4,6])
 (.seq (.seq (.ai [Qf 85 0 6,Ql 86 85,Qf 87 0 2,Ql 88 87,Q 89 (.bin .eql (.t 86) (.t 88)),Qm 90 89,Qg 91 (.load true 4 (.t 2)) 90 false,Qg 92 (.load true 4 (.t 6)) 90 false,
   Qg 93 (.call 433 [.t 91,.t 92] [] []) 90 false,Qg 94 (.not (.t 93)) 90 false,Q 95 (.pick (.t 90) (kB true) (.t 94))] [2,4,6,95] [2,4,6])
 (.cond (.t 95) (.seq (.ai [QL 96 4 2,Q 97 (.call 220 [.t 96] [] []),Qs 4 4 97,Qb 5 false] [4,5] [4])
 (.ret)) (.skip)))
 (.seq (.ai [QL 98 4 2,QL 99 4 6,Q 100 (.call 447 [.t 98,.t 99] [] []),Qs 4 4 100,Qb 5 true] [4,5] [4])
 (.ret))))))
def cM.m:Fn:={np:=2,body:=cM.b,res:=[.cell 4 true 4,.tmp 5]}
def cM.k(M:Nat→Option Body):Prop:=M 469=some (.code cM.m)∧aN.k M∧bB.k M∧bW.k M∧cU.k M∧fa.k M∧dN.k M∧fI.k M∧eU.k M∧eV.k M∧fe.k M∧bz.k M
def cL.b:C:= .seq (.ai [Qv 2 0,Qv 3 1,Q 4 (.alloc [.int .i64 0,.int .i64 0,.aL 7,.aL 1]),Qb 5 false] [2,3,4] [2,3,4])
 (.seq (.seq (.ai [QL 8 5 3,Q 9 (.call 58 [.t 8] [] []),Q 10 (.not (.t 9))] [2,3,4,10] [2,3,4])
 (.cond (.t 10) (.seq (.ai [QL 11 4 2,Q 12 (.call 219 [.t 11] [] []),Qs 4 4 12,Qb 5 false] [4,5] [4])
 (.ret)) (.skip)))
 (.seq (.seq (.ai [Qf 13 0 3,Ql 14 13] [2,3,4,14] [2,3,4])
 (.block 0 (.seq (.ai [Q 16 (.bin .eql (.t 14) (kI 1)),Qm 15 16] [2,3,4,14,15] [2,3,4])
 (.cond (.t 15) (.seq (.ai [QL 17 4 2,Qf 18 1 3,Ql 19 18,Qf 20 4 3,Ql 21 20,Q 22 (.call 278 [.t 17,.t 19,.t 21] [] []),Qx 23 0 22,Qx 24 1 22,Qs 4 4 23,Qm 5 24] [4,5] [4])
 (.ret)) (.seq (.ai [Q 26 (.bin .eql (.t 14) (kI 2)),Qm 25 26] [2,3,4,14,25] [2,3,4])
 (.cond (.t 25) (.seq (.ai [QL 27 4 2,Qf 28 1 3,Ql 29 28,Qf 30 4 3,Ql 31 30,Q 32 (.call 282 [.t 27,.t 29,.t 31] [] []),Qx 33 0 32,Qx 34 1 32,Qs 4 4 33,Qm 5 34] [4,5] [4])
 (.ret)) (.seq (.ai [Q 36 (.bin .eql (.t 14) (kI 3)),Qm 35 36] [2,3,4,14,35] [2,3,4])
 (.cond (.t 35) (.seq (.ai [QL 37 4 2,Qf 38 1 3,Ql 39 38,Q 40 (.call 283 [.t 37,.t 39] [] []),Qx 41 0 40,Qx 42 1 40,Qs 4 4 41,Qm 5 42] [4,5] [4])
 (.ret)) (.seq (.ai [Q 44 (.bin .eql (.t 14) (kI 4)),Qm 43 44] [2,3,4,14,43] [2,3,4])
 (.cond (.t 43) (.seq (.ai [QL 45 4 2,Qf 46 1 3,Ql 47 46,Qf 48 2 3,Ql 49 48,Qf 50 3 3,Ql 51 50,Qf 52 4 3,Ql 53 52,Q 54 (.call 279 [.t 45,.t 47,.t 49,.t 51,.t 53] [] []),Qx 55 0 54,Qx 56 1 54,
   Qs 4 4 55,Qm 5 56] [4,5] [4])
 (.ret)) (.seq (.ai [Q 58 (.bin .eql (.t 14) (kI 5)),Qm 57 58] [2,3,4,14,57] [2,3,4])
 (.cond (.t 57) (.seq (.ai [QL 59 4 2,Qf 60 1 3,Ql 61 60,Qf 62 2 3,Ql 63 62,Qf 64 3 3,Ql 65 64,Q 66 (.call 280 [.t 59,.t 61,.t 63,.t 65] [] []),Qx 67 0 66,Qx 68 1 66,Qs 4 4 67,Qm 5 68] [4,5] [4])
 (.ret)) (.seq (.ai [Q 70 (.bin .eql (.t 14) (kI 6)),Qm 69 70] [2,3,4,69] [2,3,4])
 (.cond (.t 69) (.seq (.ai [QL 71 4 2,Qf 72 1 3,Ql 73 72,Qf 74 2 3,Ql 75 74,Q 76 (.call 281 [.t 71,.t 73,.t 75] [] []),Qx 77 0 76,Qx 78 1 76,Qs 4 4 77,Qm 5 78] [4,5] [4])
 (.ret)) (.skip)))))))))))))))
 (.seq (.ai [Qf 80 4 3,Ql 81 80,Q 82 (.call 75 [.t 81] [] []),Qm 79 82,Qx 83 0 79,Qx 84 1 79,Q 6 (.alloc [.int .i64 0,.int .i64 0,.aL 7,.aL 1]),Qs 4 6 83,Qm 7 84] [2,4,6] [2,4,6])
 (.seq (.seq (.ai [Qf 85 0 6,Ql 86 85,Qf 87 0 2,Ql 88 87,Q 89 (.bin .eql (.t 86) (.t 88)),Qm 90 89,Qg 91 (.load true 4 (.t 2)) 90 false,Qg 92 (.load true 4 (.t 6)) 90 false,
   Qg 93 (.call 432 [.t 91,.t 92] [] []) 90 false,Qg 94 (.not (.t 93)) 90 false,Q 95 (.pick (.t 90) (kB true) (.t 94))] [2,4,6,95] [2,4,6])
 (.cond (.t 95) (.seq (.ai [QL 96 4 2,Q 97 (.call 219 [.t 96] [] []),Qs 4 4 97,Qb 5 false] [4,5] [4])
 (.ret)) (.skip)))
 (.seq (.ai [QL 98 4 2,QL 99 4 6,Q 100 (.call 446 [.t 98,.t 99] [] []),Qs 4 4 100,Qb 5 true] [4,5] [4])
 (.ret))))))
def cL.m:Fn:={np:=2,body:=cL.b,res:=[.cell 4 true 4,.tmp 5]}
def cL.k(M:Nat→Option Body):Prop:=M 468=some (.code cL.m)∧aV.k M∧bh.k M∧b5.k M∧bY.k M∧eX.k M∧eP.k M∧eQ.k M∧cV.k M∧eY.k M∧fb.k M∧bH.k M
def ig.l0:C:= .seq (.ai [Q 17 (.bin .lss (.t 16) (.t 15))] [4,6,7,14,15,16,17] [4,6])
 (.seq (.cond (.t 17) (.skip) (.exit 0))
 (.seq (.block 1 (.seq (.ai [Qa 18 5 14 16,QL 19 5 18,Q 9 (.alloc [.int .i64 0,.int .i64 0,.int .i64 0,.int .i64 0,.str ⟨#[]⟩]),Qs 5 9 19] [4,6,7,9,14,15,16] [4,6,9])
 (.seq (.shut [] (.ai [QL 21 4 6,QL 22 5 9,Q 23 (.call 469 [.t 21,.t 22] [] []),Qm 20 23,Qx 24 0 20,Qx 25 1 20,Q 10 (.alloc [.int .i64 0,.int .i64 0,.aL 7,.aL 1]),Qs 4 10 24,Qm 11 25] [4,6,7,10,11,14,15,16] [4,6,10]))
 (.seq (.ai [QL 26 4 10,Qs 4 6 26] [4,6,7,11,14,15,16] [4,6])
 (.seq (.ai [Qm 27 11] [4,6,7,14,15,16,27] [4,6])
 (.cond (.t 27) (.ai [Qm 28 7,Q 29 (.bin .add (.t 28) (kI 1)),Qm 7 29] [4,6,7,14,15,16] [4,6]) (.skip)))))))
 (.ai [Q 30 (.bin .add (.t 16) (kI 1)),Qm 16 30] [4,6,7,14,15,16] [4,6])))
def ig.b:C:= .seq (.ai [Qv 2 0,Q 4 (.alloc [.int .i64 0,.int .i64 0,.aL 7,.aL 1]),Qi 5 0] [1,2,4] [2,4])
 (.seq (.ai [QL 12 4 2,Q 13 (.call 220 [.t 12] [] []),Q 6 (.alloc [.int .i64 0,.int .i64 0,.aL 7,.aL 1]),Qs 4 6 13] [1,4,6] [4,6])
 (.seq (.ai [Qi 7 0] [1,4,6,7] [4,6])
 (.seq (.seq (.ai [Qm 14 1,Q 15 (.len (.t 14)),Qi 16 0] [4,6,7,14,15,16] [4,6])
 (.block 0 (.loop ig.l0)))
 (.seq (.ai [QL 31 4 6,Qm 32 7,Qs 4 4 31,Qm 5 32] [4,5] [4])
 (.ret)))))
def ig.m:Fn:={np:=2,body:=ig.b,res:=[.cell 4 true 4,.tmp 5]}
def ig.k(M:Nat→Option Body):Prop:=M 451=some (.code ig.m)∧bW.k M∧cM.k M
def il.b:C:= .seq (.ai [Q 2 (.alloc [.int .i64 0,.int .i64 0,.aL 7,.aL 1])] [0,2] [2])
 (.seq (.ai [Qm 3 0,Q 4 (.build [.int .i64 0,.int .i64 0,.aL 7,.aL 1] [(0,1,.t 3)]),Qs 4 2 4] [2] [2])
 (.ret))
def il.m:Fn:={np:=1,body:=il.b,res:=[.cell 2 true 4]}
def il.k(M:Nat→Option Body):Prop:=M 114=some (.code il.m)
def fG.l0:C:= .seq (.ai [Q 25 (.bin .lss (.t 24) (.t 23))] [6,7,22,23,24,25] [17,41])
 (.seq (.cond (.t 25) (.skip) (.exit 0))
 (.seq (.block 1 (.seq (.ai [Qa 26 1 22 24,Ql 27 26,Qm 9 27] [6,7,9,22,23,24] [17,41])
 (.seq (.ai [Qm 29 9,Q 30 (.call 65 [.t 29] [] []),Qm 28 30,Qx 31 0 28,Qx 32 1 28,Q 10 (.alloc [.int .i64 0,.int .i64 0,.int .i64 0,.int .i64 0,.str ⟨#[]⟩]),Qs 5 10 31,Qm 11 32] [6,7,10,11,22,23,24] [10,17,41])
 (.seq (.ai [Qm 33 7,Qm 34 33,Qg 35 (.mv (.t 11)) 34 true,Q 36 (.pick (.t 34) (.t 35) (kB false)),Qm 7 36] [6,7,10,11,22,23,24] [10,17,41])
 (.seq (.ai [Qm 37 11] [6,7,10,22,23,24,37] [10,17,41])
 (.cond (.t 37) (.ai [Qm 38 6,QL 39 5 10,Q 40 (.bF 5 1 [.int .i64 0,.int .i64 0,.int .i64 0,.int .i64 0,.str ⟨#[]⟩] [(0,.t 39)]),Q 41 (.app 5 48 (.t 38) (.t 40)),Qm 6 41] [6,7,22,23,24] [17,41]) (.skip)))))))
 (.ai [Q 42 (.bin .add (.t 24) (kI 1)),Qm 24 42] [6,7,22,23,24] [17,41])))
def fG.b:C:= .seq (.ai [Q 2 (.nil 5),Qb 3 false] [0] [])
 (.seq (.ai [Qm 13 0,Q 14 (.call 13 [.t 13] [] []),Qm 12 14,Qx 15 0 12,Qx 16 1 12,Qm 4 15,Qm 5 16] [0,4,5] [])
 (.seq (.ai [Q 17 (.bF 5 0 [.int .i64 0,.int .i64 0,.int .i64 0,.int .i64 0,.str ⟨#[]⟩] []),Qm 6 17] [0,4,5,6] [17,41])
 (.seq (.ai [Qm 18 5,Qm 19 0,Q 20 (.ky (.t 19)),Q 21 (.bin .eql (.t 18) (.t 20)),Qm 7 21] [4,6,7] [17,41])
 (.seq (.seq (.ai [Qm 22 4,Q 23 (.len (.t 22)),Qi 24 0] [6,7,22,23,24] [17,41])
 (.block 0 (.loop fG.l0)))
 (.seq (.ai [Qm 43 6,Qm 44 7,Qm 2 43,Qm 3 44] [2,3] [2,17,41])
 (.ret))))))
def fG.m:Fn:={np:=1,body:=fG.b,res:=[.tmp 2,.tmp 3]}
def fG.k(M:Nat→Option Body):Prop:=M 450=some (.code fG.m)∧cT.k M∧eT.k M
def iv.b:C:= .seq (.ai [Qv 1 0,Qb 2 false] [1] [1])
 (.seq (.ai [Qf 8 4 1,Ql 9 8,Q 10 (.call 450 [.t 9] [] []),Qm 7 10,Qx 11 0 7,Qx 12 1 7,Qm 3 11,Qm 4 12] [1,3,4] [1])
 (.seq (.seq (.ai [Qm 13 4,Q 14 (.not (.t 13)),Qm 15 14,Qg 16 (.bN 0 (.t 1)) 15 false,Qg 17 (.load true 4 (.t 16)) 15 false,Qg 18 (.call 150 [.t 17] [] []) 15 false,
   Qg 19 (.not (.t 18)) 15 false,Q 20 (.pick (.t 15) (kB true) (.t 19)),Qm 21 20,Qg 22 (.bN 5 (.t 1)) 21 false,Qg 23 (.load false 1 (.t 22)) 21 false,
   Qg 24 (.bN 4 (.t 1)) 21 false,Qg 25 (.load false 1 (.t 24)) 21 false,Qg 26 (.ky (.t 25)) 21 false,Qg 27 (.call 101 [.t 23,kI 0,.t 26] [] []) 21 false,
   Qg 28 (.not (.t 27)) 21 false,Q 29 (.pick (.t 21) (kB true) (.t 28))] [1,3,29] [1])
 (.cond (.t 29) (.seq (.ai [Qb 2 false] [2] [])
 (.ret)) (.skip)))
 (.seq (.ai [Qf 31 0 1,Qf 32 0 31,Ql 33 32,Q 34 (.call 114 [.t 33] [] []),Qm 35 3,Q 36 (.call 451 [.t 34,.t 35] [] []),Qm 30 36,Qx 37 0 30,Qx 38 1 30,
   Q 5 (.alloc [.int .i64 0,.int .i64 0,.aL 7,.aL 1]),Qs 4 5 37,Qm 6 38] [1,5] [1,5])
 (.seq (.ai [QL 39 4 5,Qf 40 0 1,QL 41 4 40,Q 42 (.call 63 [.t 39,.t 41] [] []),Qm 2 42] [2] [])
 (.ret)))))
def iv.m:Fn:={np:=1,body:=iv.b,res:=[.tmp 2]}
def iv.k(M:Nat→Option Body):Prop:=M 435=some (.code iv.m)∧gD.k M∧bP.k M∧il.k M∧aK.k M∧fG.k M∧ig.k M
def hZ.l0:C:= .seq (.seq (.ai [Qm 13 8,Qm 14 1,Q 15 (.len (.t 14)),Q 16 (.bin .lss (.t 13) (.t 15))] [1,4,6,7,8,16] [4,6])
 (.cond (.t 16) (.skip) (.exit 0)))
 (.seq (.block 1 (.seq (.shut [] (.gV [QL 20 4 6,Qm 21 1,Qm 22 8,Qa 23 5 21 22,QL 24 5 23,Q 25 (.call 468 [.t 20,.t 24] [] []),Qm 19 25,Qx 26 0 19,Qx 27 1 19,
   Q 9 (.alloc [.int .i64 0,.int .i64 0,.aL 7,.aL 1]),Qs 4 9 26,Qm 10 27] [[],[],[],[1,2],[1,2,3],lr 5,lr 6,lr 7,lr 7,[],lr 8++[9],lr 11] [1,4,6,7,8,9,10] [4,6,9]))
 (.seq (.ai [Qm 28 10] [1,4,6,7,8,9,28] [4,6,9])
 (.cond (.t 28) (.seq (.ai [QL 29 4 9,Qs 4 6 29] [1,4,6,7,8] [4,6])
 (.ai [Qm 30 7,Q 31 (.bin .add (.t 30) (kI 1)),Qm 7 31] [1,4,6,7,8] [4,6])) (.skip)))))
 (.ai [Qm 17 8,Q 18 (.bin .add (.t 17) (kI 1)),Qm 8 18] [1,4,6,7,8] [4,6]))
def hZ.b:C:= .seq (.ai [Qv 2 0,Q 4 (.alloc [.int .i64 0,.int .i64 0,.aL 7,.aL 1]),Qi 5 0] [1,2,4] [2,4])
 (.seq (.ai [QL 11 4 2,Q 12 (.call 219 [.t 11] [] []),Q 6 (.alloc [.int .i64 0,.int .i64 0,.aL 7,.aL 1]),Qs 4 6 12] [1,4,6] [4,6])
 (.seq (.ai [Qi 7 0] [1,4,6,7] [4,6])
 (.seq (.seq (.ai [Qi 8 0] [1,4,6,7,8] [4,6])
 (.block 0 (.loop hZ.l0)))
 (.seq (.ai [QL 32 4 6,Qm 33 7,Qs 4 4 32,Qm 5 33] [4,5] [4])
 (.ret)))))
def hZ.m:Fn:={np:=2,body:=hZ.b,res:=[.cell 4 true 4,.tmp 5]}
def hZ.k(M:Nat→Option Body):Prop:=M 449=some (.code hZ.m)∧b5.k M∧cL.k M
def cu.l0:C:= .seq (.seq (.ai [Qm 16 7,Qm 17 4,Q 18 (.len (.t 17)),Q 19 (.bin .lss (.t 16) (.t 18))] [0,4,5,6,7,19] [15,36])
 (.cond (.t 19) (.skip) (.exit 0)))
 (.seq (.block 1 (.seq (.ai [Qm 23 4,Qm 24 7,Qa 25 1 23 24,Ql 26 25,Q 27 (.call 64 [.t 26] [] []),Qm 22 27,Qx 28 0 22,Qx 29 1 22,
   Q 8 (.alloc [.int .i64 0,.int .i64 0,.int .i64 0,.int .i64 0,.str ⟨#[]⟩]),Qs 5 8 28,Qm 9 29] [0,4,5,6,7,8,9] [8,15,36])
 (.seq (.seq (.ai [Qm 30 9,Q 31 (.not (.t 30))] [0,4,5,6,7,8,31] [8,15,36])
 (.cond (.t 31) (.seq (.ai [Qm 32 6,Qm 2 32,Qb 3 false] [2,3] [2,15,36])
 (.ret)) (.skip)))
 (.ai [Qm 33 6,QL 34 5 8,Q 35 (.bF 5 1 [.int .i64 0,.int .i64 0,.int .i64 0,.int .i64 0,.str ⟨#[]⟩] [(0,.t 34)]),Q 36 (.app 5 48 (.t 33) (.t 35)),Qm 6 36] [0,4,5,6,7] [15,36]))))
 (.ai [Qm 20 7,Q 21 (.bin .add (.t 20) (kI 1)),Qm 7 21] [0,4,5,6,7] [15,36]))
def cu.b:C:= .seq (.ai [Q 2 (.nil 5),Qb 3 false] [0] [])
 (.seq (.ai [Qm 11 0,Q 12 (.call 12 [.t 11] [] []),Qm 10 12,Qx 13 0 10,Qx 14 1 10,Qm 4 13,Qm 5 14] [0,4,5] [])
 (.seq (.ai [Q 15 (.bF 5 0 [.int .i64 0,.int .i64 0,.int .i64 0,.int .i64 0,.str ⟨#[]⟩] []),Qm 6 15] [0,4,5,6] [15,36])
 (.seq (.seq (.ai [Qi 7 0] [0,4,5,6,7] [15,36])
 (.block 0 (.loop cu.l0)))
 (.seq (.ai [Qm 37 6,Qm 38 5,Qm 39 0,Q 40 (.ky (.t 39)),Q 41 (.bin .eql (.t 38) (.t 40)),Qm 2 37,Qm 3 41] [2,3] [2,15,36])
 (.ret)))))
def cu.m:Fn:={np:=1,body:=cu.b,res:=[.tmp 2,.tmp 3]}
def cu.k(M:Nat→Option Body):Prop:=M 448=some (.code cu.m)∧cS.k M∧ee.k M
def gu.b:C:= .seq (.ai [Qv 1 0,Qb 2 false] [1] [1])
 (.seq (.seq (.ai [Qf 7 0 1,QL 8 4 7,Q 9 (.call 149 [.t 8] [] []),Q 10 (.not (.t 9)),Qm 11 10,Qg 12 (.bN 5 (.t 1)) 11 false,Qg 13 (.load false 1 (.t 12)) 11 false,
   Qg 14 (.bN 4 (.t 1)) 11 false,Qg 15 (.load false 1 (.t 14)) 11 false,Qg 16 (.ky (.t 15)) 11 false,Qg 17 (.call 98 [.t 13,kI 0,.t 16] [] []) 11 false,
   Qg 18 (.not (.t 17)) 11 false,Q 19 (.pick (.t 11) (kB true) (.t 18))] [1,19] [1])
 (.cond (.t 19) (.seq (.ai [Qb 2 false] [2] [])
 (.ret)) (.skip)))
 (.seq (.ai [Qf 21 4 1,Ql 22 21,Q 23 (.call 448 [.t 22] [] []),Qm 20 23,Qx 24 0 20,Qx 25 1 20,Qm 3 24,Qm 4 25] [1,3,4] [1])
 (.seq (.seq (.ai [Qm 26 4,Q 27 (.not (.t 26))] [1,3,27] [1])
 (.cond (.t 27) (.seq (.ai [Qb 2 false] [2] [])
 (.ret)) (.skip)))
 (.seq (.ai [Qf 29 0 1,Qf 30 0 29,Ql 31 30,Q 32 (.call 113 [.t 31] [] []),Qm 33 3,Q 34 (.call 449 [.t 32,.t 33] [] []),Qm 28 34,Qx 35 0 28,Qx 36 1 28,
   Q 5 (.alloc [.int .i64 0,.int .i64 0,.aL 7,.aL 1]),Qs 4 5 35,Qm 6 36] [1,5] [1,5])
 (.seq (.ai [QL 37 4 5,Qf 38 0 1,QL 39 4 38,Q 40 (.call 62 [.t 37,.t 39] [] []),Qm 2 40] [2] [])
 (.ret))))))
def gu.m:Fn:={np:=1,body:=gu.b,res:=[.tmp 2]}
def gu.k(M:Nat→Option Body):Prop:=M 434=some (.code gu.m)∧fR.k M∧bE.k M∧ik.k M∧aJ.k M∧cu.k M∧hZ.k M
def gN.b:C:= .seq (.ai [Qv 2 0,Qi 4 0] [1,2] [2])
 (.seq (.ai [Qf 5 0 2,QL 6 4 5,Qm 7 1,Q 8 (.call 29 [.t 6,.t 7] [] []),Qm 1 8] [1,2] [2])
 (.seq (.seq (.ai [Qm 9 1,Q 10 (.bin .lss (.t 9) (kI 0))] [1,2,10] [2])
 (.cond (.t 10) (.seq (.ai [Qi 4 (-1)] [4] [])
 (.ret)) (.skip)))
 (.seq (.ai [Qm 11 1,Qf 12 4 2,Ql 13 12,Q 14 (.ky (.t 13)),Q 15 (.bin .sub (.t 11) (.t 14)),Qm 1 15] [1] [])
 (.seq (.seq (.ai [Qm 16 1,Q 17 (.bin .lss (.t 16) (kI 0))] [1,17] [])
 (.cond (.t 17) (.seq (.ai [Qi 4 (-1)] [4] [])
 (.ret)) (.skip)))
 (.seq (.ai [Qm 18 1,Qm 4 18] [4] [])
 (.ret))))))
def gN.m:Fn:={np:=2,body:=gN.b,res:=[.tmp 4]}
def gN.k(M:Nat→Option Body):Prop:=M 48=some (.code gN.m)∧gm.k M
def jy.b:C:= .seq (.ai [Qv 1 0,Q 2 (.alloc [.int .i64 0,.int .i64 0,.aL 7,.aL 1,.str ⟨#[]⟩,.int .i64 0])] [1,2] [1,2])
 (.seq (.ai [Q 3 (.alloc [.int .i64 0,.int .i64 0,.aL 7,.aL 1,.str ⟨#[]⟩,.int .i64 0])] [1,2,3] [1,2,3])
 (.seq (.ai [Qf 4 0 1,QL 5 4 4,Q 6 (.call 30 [.t 5] [] []),Qf 7 0 3,Qs 4 7 6] [1,2,3] [1,2,3])
 (.seq (.ai [Qf 8 4 1,Ql 9 8,Qf 10 4 3,Qs 1 10 9] [1,2,3] [1,2,3])
 (.seq (.ai [Qf 11 5 1,Ql 12 11,Qf 13 5 3,Qs 1 13 12] [2,3] [2,3])
 (.seq (.ai [QL 14 6 3,Qs 6 2 14] [2] [2])
 (.ret))))))
def jy.m:Fn:={np:=1,body:=jy.b,res:=[.cell 2 true 6]}
def jy.k(M:Nat→Option Body):Prop:=M 49=some (.code jy.m)∧iO.k M
def jA.b:C:= .seq (.ai [Qv 2 0,Qv 3 1,Qb 4 false] [2,3] [2,3])
 (.seq (.seq (.ai [Qf 5 0 2,QL 6 4 5,Qf 7 0 3,QL 8 4 7,Q 9 (.call 33 [.t 6,.t 8] [] []),Q 10 (.not (.t 9))] [2,3,10] [2,3])
 (.cond (.t 10) (.seq (.ai [Qb 4 false] [4] [])
 (.ret)) (.skip)))
 (.seq (.seq (.ai [Qf 11 4 2,Ql 12 11,Qf 13 4 3,Ql 14 13,Q 15 (.bin .neq (.t 12) (.t 14))] [2,3,15] [2,3])
 (.cond (.t 15) (.seq (.ai [Qb 4 false] [4] [])
 (.ret)) (.skip)))
 (.seq (.seq (.ai [Qf 16 5 2,Ql 17 16,Qf 18 5 3,Ql 19 18,Q 20 (.bin .neq (.t 17) (.t 19))] [20] [])
 (.cond (.t 20) (.seq (.ai [Qb 4 false] [4] [])
 (.ret)) (.skip)))
 (.seq (.ai [Qb 4 true] [4] [])
 (.ret)))))
def jA.m:Fn:={np:=2,body:=jA.b,res:=[.tmp 4]}
def jA.k(M:Nat→Option Body):Prop:=M 26=some (.code jA.m)∧iP.k M
def cH.b:C:= .seq (.ai [Qv 1 0,Qb 2 false] [1] [1])
 (.seq (.ai [Qi 3 1048576] [1,3] [1])
 (.seq (.ai [QL 7 6 1,Qm 8 3,Q 9 (.call 48 [.t 7,.t 8] [] []),Qm 3 9] [1,3] [1])
 (.seq (.seq (.ai [Qm 10 3,Q 11 (.bin .lss (.t 10) (kI 0))] [1,11] [1])
 (.cond (.t 11) (.seq (.ai [Qb 2 true] [2] [])
 (.ret)) (.skip)))
 (.seq (.ai [QL 12 6 1,Q 13 (.call 49 [.t 12] [] []),Q 14 (.call 434 [.t 13] [] []),Qm 4 14] [1,4] [1])
 (.seq (.ai [QL 15 6 1,Q 16 (.call 49 [.t 15] [] []),Q 5 (.alloc [.int .i64 0,.int .i64 0,.aL 7,.aL 1,.str ⟨#[]⟩,.int .i64 0]),Qs 6 5 16] [1,4,5] [1,5])
 (.seq (.ai [QL 17 6 5,Q 18 (.call 435 [.t 17] [] []),Qm 6 18] [1,4,5,6] [1,5])
 (.seq (.seq (.ai [Qm 19 6,Qm 20 4,Q 21 (.beq true (.t 19) (.t 20))] [1,5,21] [1,5])
 (.cond (.t 21) (.seq (.ai [Qb 2 false] [2] [])
 (.ret)) (.skip)))
 (.seq (.seq (.gV [QL 22 6 5,QL 23 6 1,Q 24 (.call 49 [.t 23] [] []),Q 25 (.call 26 [.t 22,.t 24] [] []),Q 26 (.not (.t 25))] [[],[],[1],[0,1,2],lr 4] [26] [])
 (.cond (.t 26) (.seq (.ai [Qb 2 false] [2] [])
 (.ret)) (.skip)))
 (.seq (.ai [Qb 2 true] [2] [])
 (.ret))))))))))
def cH.m:Fn:={np:=1,body:=cH.b,res:=[.tmp 2]}
def cH.k(M:Nat→Option Body):Prop:=M 399=some (.code cH.m)∧jA.k M∧gN.k M∧jy.k M∧gu.k M∧iv.k M
theorem wrap_u8(x:Int):IntKind.u8.wrap x=x%256:=by
 unfold IntKind.wrap;simp[IntKind.bits,IntKind.signed]
theorem wrap_u32(x:Int):IntKind.u32.wrap x=x%4294967296:=by
 unfold IntKind.wrap;simp[IntKind.bits,IntKind.signed]
theorem zW(k:IntKind)(x y:Int):vY k x y=k.wrap (((x%((2^k.bits:Nat):Int)).toNat&&&(y%((2^k.bits:Nat):Int)).toNat:Nat):Int):=by
 unfold vY;rw[BitVec.toNat_and,BitVec.toNat_ofInt,BitVec.toNat_ofInt]
theorem JQ(k:IntKind)(x y:Int):EC k x y=k.wrap (((x%((2^k.bits:Nat):Int)).toNat|||(y%((2^k.bits:Nat):Int)).toNat:Nat):Int):=by
 unfold EC;rw[BitVec.toNat_or,BitVec.toNat_ofInt,BitVec.toNat_ofInt]
theorem IM(n m:Nat)(hn:n<9223372036854775808)(hm:m<9223372036854775808):vY .i64 n m=((n&&&m:Nat):Int):=by
 rw[zW];have e:∀k:Nat,k<9223372036854775808→((k:Int)%((2^IntKind.i64.bits:Nat):Int)).toNat=k:=by
  intro k hk;show ((k:Int)%18446744073709551616).toNat=k;omega
 rw[e n hn,e m hm];have:n&&&m≤n:=Nat.and_le_left;exact wrap_i64 (by omega) (by omega)
theorem wV(n m:Nat)(hn:n<9223372036854775808)(hm:m<9223372036854775808):EC .i64 n m=((n|||m:Nat):Int):=by
 rw[JQ];have e:∀k:Nat,k<9223372036854775808→((k:Int)%((2^IntKind.i64.bits:Nat):Int)).toNat=k:=by
  intro k hk;show ((k:Int)%18446744073709551616).toNat=k;omega
 rw[e n hn,e m hm];have:n|||m<2^63:=Nat.or_lt_two_pow (by omega) (by omega)
 exact wrap_i64 (by omega) (by omega)
theorem Ko(n m:Nat)(hn:n<256)(hm:m<256):vY .u8 n m=((n&&&m:Nat):Int):=by
 rw[zW];have e:∀k:Nat,k<256→((k:Int)%((2^IntKind.u8.bits:Nat):Int)).toNat=k:=by
  intro k hk;show ((k:Int)%256).toNat=k;omega
 rw[e n hn,e m hm,wrap_u8];have:n&&&m≤n:=Nat.and_le_left;omega
theorem Dq(n:Nat):n&&&127=n%128:=Nat.and_two_pow_sub_one_eq_mod n 7
theorem JP(n:Nat)(h:n<128):n|||128=n+128:=by
 have:=Nat.two_pow_add_eq_or_of_lt (i:=7) (b:=n) h 1;rw[Nat.or_comm];have e:2^7*1=128:=by decide
 rw[e] at this;omega
theorem Hz(n d k:Nat)(h:n<128^k):n|||d*128^k=n+d*128^k:=by
 have e:(128:Nat)^k=2^(7*k):=by rw[show (128:Nat)=2^7 by decide,←Nat.pow_mul]
 rw[e] at h ⊢;have:=Nat.two_pow_add_eq_or_of_lt (i:=7*k) (b:=n) h d;rw[Nat.or_comm,Nat.mul_comm d,←this,Nat.add_comm]
theorem Gn:rY []=[]:=rfl
theorem Dj(b:UInt8):[[T.int .u8 (b.toNat:Int)]]=rY [b]:=rfl
theorem ofNat_toNat(n:Nat):((UInt8.ofNat n).toNat:Int)=(n:Int)%256:=by simp
attribute [simp] Gn
end Mx
namespace Mx
open Go
variable {M:Nat→Option Body}
theorem bP.ak(h:bP.k M)(n a b:Int):run M 101 [.c (I n),.c (I a),.c (I b)] []=some (.c (.bool (decide (a≤n)&&decide (n≤b))),[]):=by
 refine au (b:=bP.m) h ⟨0, ?_⟩;by_cases h:a≤n
 ·have h':n≥a:=h;simp[ba,bP.m,bP.b,aa,h]
 ·have h':¬n≥a:=h;simp[ba,bP.m,bP.b,aa,h]
theorem bE.ak(h:bE.k M)(n a b:Int):run M 98 [.c (I n),.c (I a),.c (I b)] []=some (.c (.bool (decide (a≤n)&&decide (n≤b))),[]):=by
 refine au (b:=bE.m) h ⟨0, ?_⟩;by_cases h:a≤n
 ·have h':n≥a:=h;simp[ba,bE.m,bE.b,aa,h]
 ·have h':¬n≥a:=h;simp[ba,bE.m,bE.b,aa,h]
def oQ(n:Nat):List UInt8×Nat:=if n>127 then let r:=oQ (n/128);(UInt8.ofNat (n%128+128)::r.1,r.2) else([],n)
termination_by n
decreasing_by omega
theorem tu{n:Nat}(h:¬n>127):oQ n=([],n):=by rw[oQ,if_neg h]
theorem uv{n:Nat}(h:n>127):oQ n=(UInt8.ofNat (n%128+128)::(oQ (n/128)).1,(oQ (n/128)).2):=by rw[oQ,if_pos h]
def kJ(n:Nat):List UInt8:=(oQ n).1++[UInt8.ofNat (oQ n).2]
theorem wq:∀(k n:Nat),n<128^k→(oQ n).1.length≤k:=by
 intro k
 induction k with
 |zero=>intro n h;have:n=0:=by simpa using h
        subst this;rw[tu (by omega)];simp
 |succ k ih=>
  intro n h;by_cases hc:n>127
  ·rw[uv hc];have:=ih (n/128) (by rw[Nat.pow_succ] at h;omega);simp;omega
  ·rw[tu hc];simp
theorem jC{n:Nat}(h:n≤9223372036854775807):(kJ n).length≤10:=by
 have:=wq 9 n (by omega);simp[kJ];omega
def EB(a b c:Nat)(s:Nat×List UInt8)(x:Nat×Nat):St:={t:=[(0,.c (I s.1)),(b,.c (.row a x.1 0 s.2.length))],o:=[(a,⟨x.1,1,true,false,rY s.2⟩)],n:=x.2}
def Hc(s:Nat×List UInt8):Prop:=s.1≤9223372036854775807∧∃k,s.1<128^k∧s.2.length+k≤20
theorem yo{n:Nat}{acc:List UInt8}(h:Hc (n,acc))(hc:n>127)(b:UInt8):Hc (n/128,acc++[b]):=by
 obtain⟨h1,k,h2,h3⟩:=h;simp only at h1 h2 h3;cases k with
 |zero=>simp at h2;omega
 |succ k=>exact⟨by simp only;omega,k,by simp only;rw[Nat.pow_succ] at h2;omega,by simp;omega⟩
theorem bD.ak(h:bD.k M)(n:Nat)(hn:n≤9223372036854775807):run M 99 [.c (I n)] []=some (.c (S (kJ n)),[]):=by
 refine au (b:=bD.m) h ⟨n+1, ?_⟩;obtain⟨g,hr⟩:=iN (f:=cz (run M) (n+1) bD.l0) (EB 4 3 6) Hc (fun s=>s.1) (fun s=>(s.2++(oQ s.1).1,(oQ s.1).2))
  (fun q (m:Nat×Nat)=>(.exit 0,{t:=[(0,.c (I q.2)),(3,.c (.row 4 m.1 0 q.1.length)),(6,.c (.bool false))],o:=[(4,⟨m.1,1,true,false,rY q.1⟩)],n:=m.2}))
  (by
   rintro ⟨i,acc⟩ ⟨v,x⟩ hi;by_cases hc:i>127
   ·left;have hb:=hi.1;obtain⟨k,hk1,hk2⟩:=hi.2;simp only at hb hk1 hk2;have e1:IntKind.i64.wrap ((i:Int).tmod 128+128)=((i%128+128:Nat):Int):=by
     rw[Int.tmod_eq_emod_of_nonneg (by omega),wrap_i64 (by omega) (by omega)];omega
    have e2:IntKind.i64.wrap ((i:Int)/128)=(i:Int)/128:=wrap_i64 (by omega) (by omega);have e3:IntKind.u8.wrap ((i%128+128:Nat):Int)=((UInt8.ofNat (i%128+128)).toNat:Int):=by rw[ofNat_toNat,wrap_u8]
    have hc':(127:Int)<i:=by omega
    have e4:acc.length+1≤4294967296:=by omega
    generalize hb:UInt8.ofNat (i%128+128)=b at e3;obtain⟨y,hy⟩:∃y,cz (run M) (n+1) bD.l0 (EB 4 3 6 (i,acc) (v,x))=some (.normal,EB 4 3 6 (i/128,acc++[b]) y):=by
     simp only[aE];simp only[EB,bD.l0];simp only[Int.natCast_add,Int.natCast_emod,jJ] at e1 e3;simp[hc',e1,e2,e3,e4,Dj,ab]
    refine⟨(i/128,acc++[b]),y,hy,yo hi hc b,by simp only;omega, ?_⟩;simp only[uv hc,hb,b4,List.cons_append,List.nil_append]
   ·right;have hc':¬(127:Int)<i:=by omega
    refine⟨(v,x+32), ?_,by simp⟩;simp only[tu hc,cR];simp[EB,bD.l0,hc'])
  (n+1) (n,[]) ⟨hn,9,by simp only;omega,by simp⟩ (by simp)
 have hl:=wq 9 n (by omega);have e3:IntKind.u8.wrap ((oQ n).2:Int)=((UInt8.ofNat (oQ n).2).toNat:Int):=by rw[ofNat_toNat,wrap_u8]
 have e4:(oQ n).1.length+1≤4294967296:=by omega
 simp only[List.nil_append] at hr;simp[EB,-List.nil_append] at hr;generalize hb:UInt8.ofNat (oQ n).2=b at e3;have hv:kJ n=(oQ n).1++[b]:=by rw[←hb];rfl
 rw[hv];simp[ba,bD.m,bD.b,aa,hr,e3,e4,Dj,ab]
theorem JO(n:Nat)(h:n<9223372036854775808):EC .i64 (vY .i64 n 127) 128=((n%128+128:Nat):Int):=by
 have e1:=IM n 127 h (by omega);have e2:=wV (n%128) 128 (by omega) (by omega);rw[Dq] at e1;rw[JP _ (by omega)] at e2;rw[show (127:Int)=((127:Nat):Int) from rfl,e1];exact e2
theorem cJ.ak(h:cJ.k M)(n:Nat)(hn:n≤9223372036854775807):run M 230 [.c (I n)] []=some (.lM [.c (S (if n≤1000000000 then kJ n else [])),.c (.bool (decide (n≤1000000000)))],[]):=by
 have hw:=bP.ak h.2 n 0 1000000000;refine au (b:=cJ.m) h.1 ⟨n+1, ?_⟩;by_cases hm:n≤1000000000;rotate_left
 ·have hm':¬(n:Int)≤1000000000:=by omega
  simp[hm'] at hw;simp[ba,cJ.m,cJ.b,aa,hw,hm]
 have hm':(n:Int)≤1000000000:=by omega
 simp[hm'] at hw;obtain⟨g,hr⟩:=iN (f:=cz (run M) (n+1) cJ.l0) (EB 8 4 10) Hc (fun s=>s.1) (fun s=>(s.2++(oQ s.1).1,(oQ s.1).2))
  (fun q (m:Nat×Nat)=>(.exit 0,{t:=[(0,.c (I q.2)),(4,.c (.row 8 m.1 0 q.1.length)),(10,.c (.bool false))],o:=[(8,⟨m.1,1,true,false,rY q.1⟩)],n:=m.2}))
  (by
   rintro ⟨i,acc⟩ ⟨v,x⟩ hi;by_cases hc:i>127
   ·left;have hb:=hi.1;obtain⟨k,hk1,hk2⟩:=hi.2;simp only at hb hk1 hk2;have e1:=JO i (by omega);have e2:(i:Int).fdiv 128=((i/128:Nat):Int):=by
     rw[Int.fdiv_eq_ediv_of_nonneg _ (by omega)];omega
    have e3:IntKind.u8.wrap ((i%128+128:Nat):Int)=((UInt8.ofNat (i%128+128)).toNat:Int):=by rw[ofNat_toNat,wrap_u8]
    have hc':(127:Int)<i:=by omega
    have e4:acc.length+1≤4294967296:=by omega
    generalize hb:UInt8.ofNat (i%128+128)=b at e3;obtain⟨y,hy⟩:∃y,cz (run M) (n+1) cJ.l0 (EB 8 4 10 (i,acc) (v,x))=some (.normal,EB 8 4 10 (i/128,acc++[b]) y):=by
     simp only[aE];simp only[EB,cJ.l0];simp only[Int.natCast_add,Int.natCast_emod,jJ] at e1 e3;simp[hc',e1,e2,e3,e4,Dj,ab,IntKind.bits]
    refine⟨(i/128,acc++[b]),y,hy,yo hi hc b,by simp only;omega, ?_⟩;simp only[uv hc,hb,b4,List.cons_append,List.nil_append]
   ·right;have hc':¬(127:Int)<i:=by omega
    refine⟨(v,x+32), ?_,by simp⟩;simp only[tu hc,cR];simp[EB,cJ.l0,hc'])
  (n+1) (n,[]) ⟨hn,9,by simp only;omega,by simp⟩ (by simp)
 have hl:=wq 9 n (by omega);have e3:IntKind.u8.wrap ((oQ n).2:Int)=((UInt8.ofNat (oQ n).2).toNat:Int):=by rw[ofNat_toNat,wrap_u8]
 have e4:(oQ n).1.length+1≤4294967296:=by omega
 simp only[List.nil_append] at hr;simp[EB,-List.nil_append] at hr;generalize hb:UInt8.ofNat (oQ n).2=b at e3;have hv:kJ n=(oQ n).1++[b]:=by rw[←hb];rfl
 rw[hv];simp[ba,cJ.m,cJ.b,aa,hr,hw,hm,e3,e4,Dj,ab]
def iT(l:List UInt8):List UInt8:=kJ l.length++l
theorem fS.ak(h:fS.k M)(l:List UInt8)(hl:l.length≤4611686018427387904):run M 205 [.c (S l)] []=some (.lM [.c (S (if 20000<l.length then [] else iT l)),.c (.bool (!decide (20000<l.length)))],[]):=by
 have h1:=cJ.ak h.2 l.length (by omega);refine au (b:=fS.m) h.1 ⟨0, ?_⟩;by_cases c:20000<l.length
 ·have c':20000<(l.length:Int):=by omega
  simp[ba,fS.m,fS.b,aa,c,c']
 ·have c':¬20000<(l.length:Int):=by omega
  have c2:l.length≤1000000000:=by omega
  have hv:=jC (n:=l.length) (by omega);simp only[c2,if_true,decide_true] at h1;simp (disch:=(first|omega|(simp;done)|(simp;omega))) [ba,fS.m,fS.b,aa,c,c',h1,iT,bT]
theorem jq.ak(h:jq.k M)(l:List UInt8)(hl:l.length≤20000):run M 102 [.c (S l)] []=some (.c (S (iT l)),[]):=by
 have h1:=fS.ak h.2 l (by omega);have c:¬20000<l.length:=by omega
 refine au (b:=jq.m) h.1 ⟨0, ?_⟩;simp only[c,if_false] at h1;simp[ba,jq.m,jq.b,aa,h1]
def pw(k:Nat):Nat:=128^k
def nv(l:List UInt8)(a:Nat):Nat→Nat→Nat→Option (Nat×Nat×Bool)
 |0,_,_=>none
 |d+1,k,n=>if h:a+k<l.length then
   if l[a+k].toNat<128 then some (if n+l[a+k].toNat%128*pw k≤1000000000∧kJ (n+l[a+k].toNat%128*pw k)=(l.drop a).take (k+1) then(n+l[a+k].toNat%128*pw k,a+k+1,true) else(0,0,false))
   else nv l a d (k+1) (n+l[a+k].toNat%128*pw k)
  else none
def fQ(l:List UInt8)(a:Int):Nat×Nat×Bool:=if 0≤a∧a≤l.length then(nv l a.toNat 5 0 0).getD (0,0,false) else(0,0,false)
theorem Ao(l:List UInt8)(a d k n:Nat)(h:¬a+k<l.length):nv l a d k n=none:=by
 cases d with
 |zero=>rfl
 |succ d=>rw[nv,dif_neg h]
theorem CR(l:List UInt8)(a:Nat):∀d k n r,nv l a d k n=some r→r.1≤1000000000∧r.2.1≤l.length∧(r.2.2=true→a+k<r.2.1)
 |0,k,n,r,h=>by simp[nv] at h
 |d+1,k,n,r,hr=>by
  rw[nv] at hr;by_cases h:a+k<l.length
  ·rw[dif_pos h] at hr;split at hr
   ·simp only[aH] at hr;subst hr;split
    ·rename_i hc;exact⟨hc.1,by simp only;omega,fun _=>by simp only;omega⟩
    ·simp
   ·have:=CR l a d (k+1) _ r hr;exact⟨this.1,this.2.1,fun q=>by have:=this.2.2 q;omega⟩
  ·rw[dif_neg h] at hr;cases hr
theorem pg(l:List UInt8)(a:Int):(fQ l a).1≤1000000000∧(fQ l a).2.1≤l.length∧((fQ l a).2.2=true→0≤a∧a<(fQ l a).2.1):=by
 unfold fQ;split
 ·rename_i h;cases hg:nv l a.toNat 5 0 0 with
  |none=>simp
  |some r=>
   have:=CR l a.toNat 5 0 0 r hg;exact⟨this.1,this.2.1,fun q=>⟨h.1,by have:=this.2.2 q;simp only[jU];omega⟩⟩
 ·simp
def BM(l:List UInt8)(a:Nat)(s:Nat×Nat)(x:Nat):St:={t:=[(0,.c (S l)),(1,.c (I a)),(7,.c (I s.2)),(8,.c (I (pw s.1:Nat))),(9,.c (I ((a:Int)+s.1)))],o:=[],n:=x}
def mE(q:Option (Nat×Nat×Bool))(m:St):Out×St:=match q with
 |some r=>(.ret,{t:=[(4,.c (I r.1)),(5,.c (I r.2.1)),(6,.c (.bool r.2.2))],o:=[],n:=m.n})
 |none=>(.exit 0,m)
theorem Ap(q:Option (Nat×Nat×Bool))(m:St):(mE q m).1≠.normal:=by
 cases q<;>simp[mE]
theorem wa{k:Nat}(h:k≤5):pw k≤34359738368:=by
 have:k=0∨k=1∨k=2∨k=3∨k=4∨k=5:=by omega
 rcases this with rfl|rfl|rfl|rfl|rfl|rfl<;>decide+kernel
theorem CX(k:Nat):pw (k+1)=pw k*128:=Nat.pow_succ 128 k
theorem CM{n k b:Nat}(h:n<pw k):n+b%128*pw k<pw (k+1):=by
 have h1:b%128≤127:=by omega
 have h2:b%128*pw k≤127*pw k:=cn _ h1;rw[CX];omega
theorem b_.ak(h:b_.k M)(l:List UInt8)(hl:l.length≤4611686018427387904)(a:Int):
  run M 221 [.c (S l),.c (I a)] []=some (.lM [.c (I (fQ l a).1),.c (I (fQ l a).2.1),.c (.bool (fQ l a).2.2)],[]):=by
 obtain⟨h0,k1,k2⟩:=h;have hw:=bE.ak k1 a 0 l.length;refine au (b:=b_.m) h0 ⟨7, ?_⟩;by_cases c:0≤a∧a≤l.length;rotate_left
 ·have hb:(decide (0≤a)&&decide (a≤(l.length:Int)))=false:=by
   rw[Bool.eq_false_iff];intro hh;simp only[aj,decide_eq_true_eq] at hh;omega
  rw[hb] at hw;simp[ba,b_.m,b_.b,aa,hw,fQ,c]
 obtain⟨c1,c2⟩:=c;obtain⟨a,rfl⟩:=gJ c1;have c3:a≤l.length:=by omega
 simp[c1,c3] at hw;obtain⟨g,hr⟩:=iN (f:=cz (run M) 7 b_.l0) (BM l a) (fun s=>s.1≤5∧s.2<pw s.1) (fun s=>5-s.1) (fun s=>nv l a (5-s.1) s.1 s.2) mE
  (by
   rintro ⟨k,n⟩ x ⟨h1,h2⟩;simp only at h1 h2;have hp:=wa h1;have e2:IntKind.i64.wrap ((a:Int)+5)=(a:Int)+5:=wrap_i64 (by omega) (by omega);have stop:(∃m,cz (run M) 7 b_.l0 (BM l a (k,n) x)=some (mE (nv l a (5-k) k n) m))→(∃s' y,cz (run M) 7 b_.l0 (BM l a (k,n) x)=some (.normal,BM l a s' y)∧(s'.1≤5∧s'.2<pw s'.1)∧5-s'.1<5-(k,n).1∧nv l a (5-s'.1) s'.1 s'.2=nv l a (5-(k,n).1) (k,n).1 (k,n).2)∨(∃z,cz (run M) 7 b_.l0 (BM l a (k,n) x)=some (mE (nv l a (5-(k,n).1) (k,n).1 (k,n).2) z)∧(mE (nv l a (5-(k,n).1) (k,n).1 (k,n).2) z).1≠.normal):=fun⟨m,hm⟩=> .inr ⟨m,hm,Ap _ _⟩
   by_cases hlt:a+k<l.length;rotate_left
   ·have d1:¬(a:Int)+k<l.length:=by omega
    refine stop ?_;simp only[Ao l a _ k n hlt,mE];simp[BM,b_.l0,d1]
   have d1:(a:Int)+k<l.length:=by omega
   by_cases h5:k<5;rotate_left
   ·have:k=5:=by omega
    subst this;refine stop ?_;simp only[Nat.sub_self,nv,mE];simp at d1;simp[BM,b_.l0,d1,e2]
   have d2:(a:Int)+k<a+5:=by omega
   have hs:=CM (b:=l[a+k].toNat) h2;have hp':=wa (k:=k+1) (by omega);have hd:5-k=(5-(k+1))+1:=by omega
   obtain⟨b,hb⟩:∃b,l[a+k]=b:=⟨_,rfl⟩
   rw[hb] at hs;have hbl:=b.toNat_lt;have e3:IntKind.i64.wrap (b.toNat:Int)=b.toNat:=wrap_i64 (by omega) (by omega);have q4:((b.toNat:Int)%128*(pw k:Nat))=((b.toNat%128*pw k:Nat):Int):=by push_cast;rfl
   have e4:IntKind.i64.wrap ((b.toNat:Int)%128*(pw k:Nat))=(b.toNat:Int)%128*(pw k:Nat):=by rw[q4];exact wrap_i64 (by omega) (by omega)
   have e5:IntKind.i64.wrap ((n:Int)+(b.toNat:Int)%128*(pw k:Nat))=(n:Int)+(b.toNat:Int)%128*(pw k:Nat):=by rw[q4];exact wrap_i64 (by omega) (by omega)
   have e6:IntKind.i64.wrap (((pw k:Nat):Int)*128)=((pw (k+1):Nat):Int):=by
    rw[show ((pw k:Nat):Int)*128=((pw (k+1):Nat):Int) by rw[CX];push_cast;rfl];exact wrap_i64 (by omega) (by omega)
   have e7:IntKind.i64.wrap ((a:Int)+k+1)=(a:Int)+(k+1):=by rw[wrap_i64 (by omega) (by omega)];omega
   have e8:((a:Int)+k).toNat=a+k:=by omega
   have e9:(b.toNat:Int).tmod 128=(b.toNat:Int)%128:=Int.tmod_eq_emod_of_nonneg (by omega);have h1':=bD.ak k2 (n+b.toNat%128*pw k) (by omega);simp only[Int.natCast_add,Int.natCast_mul,Int.natCast_emod,jJ] at h1';have f0:(0:Int)≤(a:Int)+k:=by omega
   by_cases hb128:b.toNat<128;rotate_left
   ·left;have b1:¬(b.toNat:Int)<128:=by omega
    obtain⟨y,hy⟩:∃y,cz (run M) 7 b_.l0 (BM l a (k,n) x)=some (.normal,BM l a (k+1,n+b.toNat%128*pw k) y):=by
     simp[BM,b_.l0,d1,d2,e2,e3,e4,e5,e6,e7,e8,e9,f0,hlt,d_,hb,b1]
    refine⟨(k+1,n+b.toNat%128*pw k),y,hy,⟨h5,hs⟩,by simp only;omega, ?_⟩;simp only[hd];rw[nv,dif_pos hlt,hb,if_neg hb128]
   refine stop ?_;have b1:(b.toNat:Int)<128:=by omega
   rw[hd,nv,dif_pos hlt,hb,if_pos hb128];have f1:(0:Int)≤(a:Int)+(k+1):=by omega
   have f2:((a:Int)+(k+1)).toNat=a+(k+1):=by omega
   by_cases hN:n+b.toNat%128*pw k≤1000000000;rotate_left
   ·rw[if_neg (fun q=>hN q.1)];have hN':1000000000<(n:Int)+(b.toNat:Int)%128*(pw k:Nat):=by rw[q4];omega
    simp[mE,BM,b_.l0,d1,d2,e2,e3,e4,e5,e6,e8,e9,f0,hlt,d_,hb,b1,hN'];exact⟨⟨[],[],_⟩,rfl⟩
   have hN':¬1000000000<(n:Int)+(b.toNat:Int)%128*(pw k:Nat):=by rw[q4];omega
   obtain⟨w,hw'⟩:∃w,(l.drop a).take (k+1)=w:=⟨_,rfl⟩
   have w1:(l.take (a+(k+1))).drop a=w:=by rw[←hw',List.drop_take];congr 1;omega
   have w2:(l.drop a).take (a+(k+1)-a)=w:=by rw[←hw'];congr 1;omega
   have g1:a≤a+(k+1)∧a+(k+1)≤l.length:=by omega
   rw[hw'];by_cases hv:kJ (n+b.toNat%128*pw k)=w
   ·rw[if_pos ⟨hN,hv⟩];simp[mE,BM,b_.l0,d1,d2,e2,e3,e4,e5,e6,e7,e8,e9,f0,hlt,d_,hb,b1,hN',h1',f1,f2,w1,g1,hv];exact⟨by omega,⟨[],[],_⟩,rfl⟩
   ·rw[if_neg (fun q=>hv q.2)];simp[mE,BM,b_.l0,d1,d2,e2,e3,e4,e5,e6,e7,e8,e9,f0,hlt,d_,hb,b1,hN',h1',f1,f2,w1,g1,hv];exact⟨⟨[],[],_⟩,rfl⟩)
  7 (0,0) ⟨by simp,by simp[pw]⟩ (by simp)
 simp only[Nat.sub_zero] at hr;have hp0:pw 0=1:=rfl;simp only[fQ];rw[if_pos ⟨c1,c2⟩];simp only[fB];cases hg:nv l a 5 0 0 with
 |none=>
  simp[BM,hg,mE,hp0] at hr;simp[ba,b_.m,b_.b,aa,hw,hr]
 |some r=>
  simp[BM,hg,mE,hp0] at hr;simp[ba,b_.m,b_.b,aa,hw,hr]
def B_(l:List UInt8)(a:Nat)(s:Nat×Nat)(x:Nat):St:={t:=[(0,.c (S l)),(1,.c (I a)),(7,.c (I s.2)),(8,.c (I s.1))],o:=[],n:=x}
theorem cd.ak(h:cd.k M)(l:List UInt8)(hl:l.length≤4611686018427387904)(a:Int):
  run M 231 [.c (S l),.c (I a)] []=some (.lM [.c (I (fQ l a).1),.c (I (fQ l a).2.1),.c (.bool (fQ l a).2.2)],[]):=by
 obtain⟨h0,k1,k2⟩:=h;have hw:=bP.ak k1 a 0 l.length;refine au (b:=cd.m) h0 ⟨7, ?_⟩;by_cases c:0≤a∧a≤l.length;rotate_left
 ·have hb:(decide (0≤a)&&decide (a≤(l.length:Int)))=false:=by
   rw[Bool.eq_false_iff];intro hh;simp only[aj,decide_eq_true_eq] at hh;omega
  rw[hb] at hw;simp[ba,cd.m,cd.b,aa,hw,fQ,c]
 obtain⟨c1,c2⟩:=c;obtain⟨a,rfl⟩:=gJ c1;have c3:a≤l.length:=by omega
 simp[c1,c3] at hw;obtain⟨g,hr⟩:=iN (f:=cz (run M) 7 cd.l0) (B_ l a) (fun s=>s.1≤5∧s.2<pw s.1) (fun s=>5-s.1) (fun s=>nv l a (5-s.1) s.1 s.2) mE
  (by
   rintro ⟨k,n⟩ x ⟨h1,h2⟩;simp only at h1 h2;have hp:=wa h1;have stop:(∃m,cz (run M) 7 cd.l0 (B_ l a (k,n) x)=some (mE (nv l a (5-k) k n) m))→(∃s' y,cz (run M) 7 cd.l0 (B_ l a (k,n) x)=some (.normal,B_ l a s' y)∧(s'.1≤5∧s'.2<pw s'.1)∧5-s'.1<5-(k,n).1∧nv l a (5-s'.1) s'.1 s'.2=nv l a (5-(k,n).1) (k,n).1 (k,n).2)∨(∃z,cz (run M) 7 cd.l0 (B_ l a (k,n) x)=some (mE (nv l a (5-(k,n).1) (k,n).1 (k,n).2) z)∧(mE (nv l a (5-(k,n).1) (k,n).1 (k,n).2) z).1≠.normal):=fun⟨m,hm⟩=> .inr ⟨m,hm,Ap _ _⟩
   by_cases h5:k<5;rotate_left
   ·have:k=5:=by omega
    subst this;refine stop ?_;simp only[Nat.sub_self,nv,mE];simp[B_,cd.l0]
   have d2:(k:Int)<5:=by omega
   have e0:IntKind.i64.wrap ((a:Int)+k)=(a:Int)+k:=wrap_i64 (by omega) (by omega);by_cases hlt:a+k<l.length;rotate_left
   ·have d1:¬(a:Int)+k<l.length:=by omega
    refine stop ?_;simp only[Ao l a _ k n hlt,mE];simp[B_,cd.l0,d1,d2,e0]
   have d1:(a:Int)+k<l.length:=by omega
   have hs:=CM (b:=l[a+k].toNat) h2;have hp':=wa (k:=k+1) (by omega);have hd:5-k=(5-(k+1))+1:=by omega
   obtain⟨b,hb⟩:∃b,l[a+k]=b:=⟨_,rfl⟩
   rw[hb] at hs;have hbl:=b.toNat_lt;have e3:vY .u8 (b.toNat:Int) 127=(b.toNat:Int)%128:=by
    have:=Ko b.toNat 127 (by omega) (by omega);rw[Dq] at this;rw[show (127:Int)=((127:Nat):Int) from rfl,this];omega
   have e3':IntKind.i64.wrap ((b.toNat:Int)%128)=(b.toNat:Int)%128:=wrap_i64 (by omega) (by omega);have e4:IntKind.i64.wrap (7*(k:Int))=7*(k:Int):=wrap_i64 (by omega) (by omega);have e4':(7*(k:Int)).toNat=7*k:=by omega
   have e4'':min (7*k) 64=7*k:=by omega
   have q4:((b.toNat:Int)%128*(pw k:Nat))=((b.toNat%128*pw k:Nat):Int):=by push_cast;rfl
   have q5:(2:Int)^(7*k)=(pw k:Nat):=by
    unfold pw;rw[Int.pow_mul];push_cast;rfl
   have e5:IntKind.i64.wrap ((b.toNat:Int)%128*(pw k:Nat))=(b.toNat:Int)%128*(pw k:Nat):=by rw[q4];exact wrap_i64 (by omega) (by omega)
   have e6:EC .i64 (n:Int) ((b.toNat:Int)%128*(pw k:Nat))=(n:Int)+(b.toNat:Int)%128*(pw k:Nat):=by
    rw[q4,wV n (b.toNat%128*pw k) (by omega) (by omega)];have:=Hz n (b.toNat%128) k h2;unfold pw at this ⊢;rw[this];push_cast;rfl
   have e7:=cA (i:=k) (by omega);have e7':IntKind.i64.wrap ((a:Int)+k+1)=(a:Int)+(k+1):=by rw[wrap_i64 (by omega) (by omega)];omega
   have e8:((a:Int)+k).toNat=a+k:=by omega
   have h1':=cJ.ak k2 (n+b.toNat%128*pw k) (by omega);simp only[Int.natCast_add,Int.natCast_mul,Int.natCast_emod,jJ] at h1';have f0:(0:Int)≤(a:Int)+k:=by omega
   have f3:(0:Int)≤7*(k:Int):=by omega
   have f4:¬7*(k:Int)<0:=by omega
   by_cases hb128:b.toNat<128;rotate_left
   ·left;have b1:127<(b.toNat:Int):=by omega
    obtain⟨y,hy⟩:∃y,cz (run M) 7 cd.l0 (B_ l a (k,n) x)=some (.normal,B_ l a (k+1,n+b.toNat%128*pw k) y):=by
     simp[B_,cd.l0,d1,d2,e0,e3,e3',e4,e4',e4'',e5,e6,e7,e8,q5,f0,f4,hlt,d_,hb,b1,IntKind.bits]
    refine⟨(k+1,n+b.toNat%128*pw k),y,hy,⟨h5,hs⟩,by simp only;omega, ?_⟩;simp only[hd];rw[nv,dif_pos hlt,hb,if_neg hb128]
   refine stop ?_;have b1:¬127<(b.toNat:Int):=by omega
   rw[hd,nv,dif_pos hlt,hb,if_pos hb128];have f1:(0:Int)≤(a:Int)+(k+1):=by omega
   have f2:((a:Int)+(k+1)).toNat=a+(k+1):=by omega
   by_cases hN:n+b.toNat%128*pw k≤1000000000;rotate_left
   ·rw[if_neg (fun q=>hN q.1)];simp only[hN,if_false,decide_false] at h1';simp[mE,B_,cd.l0,d1,d2,e0,e3,e3',e4,e4',e4'',e5,e6,e8,q5,f0,f4,hlt,d_,hb,b1,h1',IntKind.bits];exact⟨⟨[],[],_⟩,rfl⟩
   simp only[hN,if_true,decide_true] at h1';obtain⟨w,hw'⟩:∃w,(l.drop a).take (k+1)=w:=⟨_,rfl⟩
   have w1:(l.take (a+(k+1))).drop a=w:=by rw[←hw',List.drop_take];congr 1;omega
   have w2:(l.drop a).take (a+(k+1)-a)=w:=by rw[←hw'];congr 1;omega
   have g1:a≤a+(k+1)∧a+(k+1)≤l.length:=by omega
   rw[hw'];by_cases hv:kJ (n+b.toNat%128*pw k)=w
   ·rw[if_pos ⟨hN,hv⟩];simp[mE,B_,cd.l0,d1,d2,e0,e3,e3',e4,e4',e4'',e5,e6,e7',e8,q5,f0,f4,hlt,d_,hb,b1,h1',f1,f2,w1,g1,hv,IntKind.bits];exact⟨by omega,⟨[],[],_⟩,rfl⟩
   ·rw[if_neg (fun q=>hv q.2)];simp[mE,B_,cd.l0,d1,d2,e0,e3,e3',e4,e4',e4'',e5,e6,e7',e8,q5,f0,f4,hlt,d_,hb,b1,h1',f1,f2,w1,g1,hv,IntKind.bits];exact⟨⟨[],[],_⟩,rfl⟩)
  7 (0,0) ⟨by simp,by simp[pw]⟩ (by simp)
 simp only[Nat.sub_zero] at hr;simp only[fQ];rw[if_pos ⟨c1,c2⟩];simp only[fB];cases hg:nv l a 5 0 0 with
 |none=>
  simp[B_,hg,mE] at hr;simp[ba,cd.m,cd.b,aa,hw,hr]
 |some r=>
  simp[B_,hg,mE] at hr;simp[ba,cd.m,cd.b,aa,hw,hr]
def c_(l:List UInt8)(a:Int):List UInt8×Nat×Bool:=
 if(fQ l a).2.2=true∧(fQ l a).1≤20000∧(fQ l a).1+(fQ l a).2.1≤l.length then((l.drop (fQ l a).2.1).take (fQ l a).1,(fQ l a).2.1+(fQ l a).1,true) else([],0,false)
theorem cW.ak(h:cW.k M)(l:List UInt8)(hl:l.length≤4611686018427387904)(a:Int):
  run M 206 [.c (S l),.c (I a)] []=some (.lM [.c (S (c_ l a).1),.c (I (c_ l a).2.1),.c (.bool (c_ l a).2.2)],[]):=by
 have h1:=b_.ak h.2 l hl a;obtain⟨q1,q2,_⟩:=pg l a;refine au (b:=cW.m) h.1 ⟨0, ?_⟩;unfold c_;generalize (fQ l a).1=n at*;generalize (fQ l a).2.1=f at*;generalize (fQ l a).2.2=ok at*;cases ok with
 |false=>simp[ba,cW.m,cW.b,aa,h1]
 |true=>
  by_cases c1:n≤20000;rotate_left
  ·have c1':20000<(n:Int):=by omega
   simp[ba,cW.m,cW.b,aa,h1,c1,c1']
  have c1':¬20000<(n:Int):=by omega
  have e1:IntKind.i64.wrap ((l.length:Int)-f)=(l.length:Int)-f:=wrap_i64 (by omega) (by omega);by_cases c2:n+f≤l.length;rotate_left
  ·have c2':(l.length:Int)-f<n:=by omega
   simp[ba,cW.m,cW.b,aa,h1,c1,c1',c2,c2',e1]
  have c2':¬(l.length:Int)-f<n:=by omega
  have e2:IntKind.i64.wrap ((f:Int)+n)=(f:Int)+n:=wrap_i64 (by omega) (by omega);have e3:((f:Int)+n).toNat=f+n:=by omega
  have e4:(0:Int)≤(f:Int)+n:=by omega
  have e5:f≤f+n∧f+n≤l.length:=by omega
  obtain⟨w,hw⟩:∃w,(l.drop f).take n=w:=⟨_,rfl⟩
  have w1:(l.take (f+n)).drop f=w:=by rw[←hw,List.drop_take];congr 1;omega
  have w2:(l.drop f).take (f+n-f)=w:=by rw[←hw];congr 1;omega
  simp[ba,cW.m,cW.b,aa,h1,c1,c1',c2,c2',e1,e2,e3,e4,e5,hw,w1]
theorem cY.ak(h:cY.k M)(l:List UInt8)(hl:l.length≤4611686018427387904)(a:Int):
  run M 207 [.c (S l),.c (I a)] []=some (.lM [.c (S (c_ l a).1),.c (I (c_ l a).2.1),.c (.bool (c_ l a).2.2)],[]):=by
 have h1:=cd.ak h.2 l hl a;obtain⟨q1,q2,_⟩:=pg l a;refine au (b:=cY.m) h.1 ⟨0, ?_⟩;unfold c_;generalize (fQ l a).1=n at*;generalize (fQ l a).2.1=f at*;generalize (fQ l a).2.2=ok at*;cases ok with
 |false=>simp[ba,cY.m,cY.b,aa,h1]
 |true=>
  by_cases c1:n≤20000;rotate_left
  ·have c1':20000<(n:Int):=by omega
   simp[ba,cY.m,cY.b,aa,h1,c1,c1']
  have c1':¬20000<(n:Int):=by omega
  have e1:IntKind.i64.wrap ((l.length:Int)-f)=(l.length:Int)-f:=wrap_i64 (by omega) (by omega);by_cases c2:n+f≤l.length;rotate_left
  ·have c2':(l.length:Int)-f<n:=by omega
   simp[ba,cY.m,cY.b,aa,h1,c1,c1',c2,c2',e1]
  have c2':¬(l.length:Int)-f<n:=by omega
  have e2:IntKind.i64.wrap ((f:Int)+n)=(f:Int)+n:=wrap_i64 (by omega) (by omega);have e3:((f:Int)+n).toNat=f+n:=by omega
  have e4:(0:Int)≤(f:Int)+n:=by omega
  have e5:f≤f+n∧f+n≤l.length:=by omega
  obtain⟨w,hw⟩:∃w,(l.drop f).take n=w:=⟨_,rfl⟩
  have w1:(l.take (f+n)).drop f=w:=by rw[←hw,List.drop_take];congr 1;omega
  have w2:(l.drop f).take (f+n-f)=w:=by rw[←hw];congr 1;omega
  simp[ba,cY.m,cY.b,aa,h1,c1,c1',c2,c2',e1,e2,e3,e4,e5,hw,w1]
abbrev Bt(n:Int):T:= .int .u32 n
def half(x:Int):Int:=if x%2=1 then Bv .u32 (x/2) 3558460437 else x/2
def tV:Nat→Int→Int
 |0,x=>x
 |n+1,x=>tV n (half x)
def pH(x:Int)(b:UInt8):Int:=tV 8 (Bv .u32 x b.toNat)
def oR(x:Int)(l:List UInt8):Int:=l.foldl pH x
def sumOf(l:List UInt8):Int:=oR 4294967295 l
def pX(x:Int):Prop:=0≤x∧x<4294967296
theorem uq(x y:Int):pX (Bv .u32 x y):=by
 unfold Bv pX;rw[wrap_u32];omega
theorem zN{x:Int}(h:pX x):pX (half x):=by
 unfold half;split
 ·exact uq _ _
 ·unfold pX at*;omega
theorem tU:∀(n:Nat) {x:Int},pX x→pX (tV n x)
 |0,_,h=>h
 |n+1,_,h=>tU n (zN h)
theorem wA:∀(l:List UInt8) {x:Int},pX x→pX (oR x l)
 |[],_,h=>h
 |b::l,x,h=>by
  show pX (oR (pH x b) l);exact wA l (tU 8 (uq _ _))
theorem Ab(l:List UInt8):pX (sumOf l):=wA l ⟨by decide,by decide⟩
def Jd(l:List UInt8)(j:Nat)(s:Nat×Int)(x:Nat):St:={t:=[(0,.c (Bt s.2)),(1,.c (S l)),(5,.c (I j)),(6,.c (I s.1))],o:=[],n:=x}
theorem K3{x:Int}(h:0≤x):x.tmod 2=x%2:=Int.tmod_eq_emod_of_nonneg h
theorem K4{x:Int}(h:0≤x):x.tdiv 2=x/2:=Int.tdiv_eq_ediv_of_nonneg h
theorem cC.inner(cf:cI)(k:Nat)(l:List UInt8)(j:Nat)(x0:Int)(h0:pX x0):∀m,8<m→∃g:Nat→Nat,∀x,fx (cz cf k cC.l1) m (Jd l j (0,x0) x)=
  some (.exit 2,{t:=[(0,.c (Bt (tV 8 x0))),(1,.c (S l)),(5,.c (I j)),(6,.c (I 8)),(21,.c (.bool false))],o:=[],n:=g x}):=by
 intro m hm;exact iN (f:=cz cf k cC.l1) (Jd l j) (fun s=>s.1≤8∧pX s.2) (fun s=>8-s.1) (fun s=>tV (8-s.1) s.2)
  (fun q m=>(.exit 2,{t:=[(0,.c (Bt q)),(1,.c (S l)),(5,.c (I j)),(6,.c (I 8)),(21,.c (.bool false))],o:=[],n:=m}))
  (by
   rintro ⟨i,y⟩ x ⟨h1,h2⟩;simp only at h1 h2;by_cases hlt:i<8
   ·have e5:=cA (i:=i) (by omega);have e0:(i:Int)<8:=by omega
    have e1:=K3 h2.1;have e2:=K4 h2.1;have e3:IntKind.u32.wrap (y/2)=y/2:=by rw[wrap_u32];have:=h2.2;have:=h2.1;omega
    have hd:8-i=(8-(i+1))+1:=by omega
    left;obtain⟨z,hz⟩:∃z,cz cf k cC.l1 (Jd l j (i,y) x)=some (.normal,Jd l j (i+1,half y) z):=by
     by_cases c:y%2=1
     ·simp[Jd,cC.l1,e0,e5,e1,e2,e3,c,half]
     ·simp[Jd,cC.l1,e0,e5,e1,e2,e3,c,half]
    exact⟨(i+1,half y),z,hz,⟨hlt,zN h2⟩,by simp only;omega,by simp only[hd];rfl⟩
   ·have:i=8:=by omega
    subst this;exact .inr ⟨x+32,by simp[Jd,cC.l1,tV],by simp⟩)
  m (0,x0) ⟨by simp,h0⟩ (by simp;omega)
theorem M_{x:Int}(h:pX x):vY .u32 x 1=x%2:=by
 obtain⟨n,rfl⟩:=gJ h.1;have h2:n<4294967296:=by have:=h.2;omega
 rw[zW,wrap_u32];have e1:((n:Int)%((2^IntKind.u32.bits:Nat):Int)).toNat=n:=by
  show ((n:Int)%4294967296).toNat=n;omega
 have e2:((1:Int)%((2^IntKind.u32.bits:Nat):Int)).toNat=1:=by decide
 rw[e1,e2,Nat.and_one_is_mod];omega
def Jj(l:List UInt8)(j:Nat)(s:Nat×Int)(x:Nat):St:={t:=[(0,.c (Bt s.2)),(1,.c (S l)),(5,.c (I j)),(19,.c (I s.1))],o:=[],n:=x}
theorem cD.inner(cf:cI)(k:Nat)(l:List UInt8)(j:Nat)(x0:Int)(h0:pX x0):∀m,8<m→∃g:Nat→Nat,∀x,fx (cz cf k cD.l1) m (Jj l j (0,x0) x)=
  some (.exit 2,{t:=[(0,.c (Bt (tV 8 x0))),(1,.c (S l)),(5,.c (I j)),(19,.c (I 8)),(20,.c (.bool false))],o:=[],n:=g x}):=by
 intro m hm;exact iN (f:=cz cf k cD.l1) (Jj l j) (fun s=>s.1≤8∧pX s.2) (fun s=>8-s.1) (fun s=>tV (8-s.1) s.2)
  (fun q m=>(.exit 2,{t:=[(0,.c (Bt q)),(1,.c (S l)),(5,.c (I j)),(19,.c (I 8)),(20,.c (.bool false))],o:=[],n:=m}))
  (by
   rintro ⟨i,y⟩ x ⟨h1,h2⟩;simp only at h1 h2;by_cases hlt:i<8
   ·have e5:=cA (i:=i) (by omega);have e0:(i:Int)<8:=by omega
    have e1:=M_ h2;have e2:y.fdiv 2=y/2:=Int.fdiv_eq_ediv_of_nonneg _ (by omega);have hd:8-i=(8-(i+1))+1:=by omega
    left;obtain⟨z,hz⟩:∃z,cz cf k cD.l1 (Jj l j (i,y) x)=some (.normal,Jj l j (i+1,half y) z):=by
     by_cases c:y%2=1
     ·simp[Jj,cD.l1,e0,e5,e1,e2,c,half,IntKind.bits]
     ·simp[Jj,cD.l1,e0,e5,e1,e2,c,half,IntKind.bits]
    exact⟨(i+1,half y),z,hz,⟨hlt,zN h2⟩,by simp only;omega,by simp only[hd];rfl⟩
   ·have:i=8:=by omega
    subst this;exact .inr ⟨x+16,by simp[Jj,cD.l1,tV],by simp⟩)
  m (0,x0) ⟨by simp,h0⟩ (by simp;omega)
theorem EV(b:UInt8):IntKind.u32.wrap (b.toNat:Int)=b.toNat:=by
 rw[wrap_u32];have:=b.toNat_lt;omega
def rq(l:List UInt8)(s:Nat×Int)(x:Nat):St:={t:=[(0,.c (Bt s.2)),(1,.c (S l)),(5,.c (I s.1))],o:=[],n:=x}
theorem cC.ak(h:cC.k M)(l:List UInt8)(hl:l.length≤4611686018427387904)(x0:Int)(h0:pX x0):run M 248 [.c (Bt x0),.c (S l)] []=some (.c (Bt (oR x0 l)),[]):=by
 refine au (b:=cC.m) h ⟨l.length+9, ?_⟩;obtain⟨g,hr⟩:=iN (f:=cz (run M) (l.length+9) cC.l0) (rq l) (fun s=>s.1≤l.length∧pX s.2) (fun s=>l.length-s.1) (fun s=>oR s.2 (l.drop s.1))
  (fun q m=>(.exit 0,{t:=[(0,.c (Bt q)),(1,.c (S l)),(5,.c (I l.length)),(11,.c (.bool false))],o:=[],n:=m}))
  (by
   rintro ⟨i,y⟩ x ⟨h1,h2⟩;simp only at h1 h2;by_cases hlt:i<l.length
   ·have e5:=cA (i:=i) (by omega);have e6:=EV l[i];obtain⟨g1,hg⟩:=cC.inner (run M) (l.length+9) l i (Bv .u32 y l[i].toNat) (uq _ _) (l.length+9) (by omega);simp[Jd] at hg;left;obtain⟨z,hz⟩:∃z,cz (run M) (l.length+9) cC.l0 (rq l (i,y) x)=some (.normal,rq l (i+1,pH y l[i]) z):=by
     simp[rq,cC.l0,hlt,d_,e5,e6,hg,pH]
    refine⟨(i+1,pH y l[i]),z,hz,⟨hlt,tU 8 (uq _ _)⟩,by simp only;omega, ?_⟩;simp only[bA hlt];rfl
   ·have:i=l.length:=by omega
    subst this;exact .inr ⟨x+64,by simp[rq,cC.l0,oR],by simp⟩)
  (l.length+9) (0,x0) ⟨Nat.zero_le _,h0⟩ (by simp)
 simp[rq] at hr;simp[ba,cC.m,cC.b,aa,hr]
theorem cD.ak(h:cD.k M)(l:List UInt8)(hl:l.length≤4611686018427387904)(x0:Int)(h0:pX x0):run M 249 [.c (Bt x0),.c (S l)] []=some (.c (Bt (oR x0 l)),[]):=by
 refine au (b:=cD.m) h ⟨l.length+9, ?_⟩;obtain⟨g,hr⟩:=iN (f:=cz (run M) (l.length+9) cD.l0) (rq l) (fun s=>s.1≤l.length∧pX s.2) (fun s=>l.length-s.1) (fun s=>oR s.2 (l.drop s.1))
  (fun q m=>(.exit 0,{t:=[(0,.c (Bt q)),(1,.c (S l)),(5,.c (I l.length)),(10,.c (.bool false))],o:=[],n:=m}))
  (by
   rintro ⟨i,y⟩ x ⟨h1,h2⟩;simp only at h1 h2;by_cases hlt:i<l.length
   ·have e5:=cA (i:=i) (by omega);have e6:=EV l[i];obtain⟨g1,hg⟩:=cD.inner (run M) (l.length+9) l i (Bv .u32 y l[i].toNat) (uq _ _) (l.length+9) (by omega);simp[Jj] at hg;left;obtain⟨z,hz⟩:∃z,cz (run M) (l.length+9) cD.l0 (rq l (i,y) x)=some (.normal,rq l (i+1,pH y l[i]) z):=by
     simp[rq,cD.l0,hlt,d_,e5,e6,hg,pH]
    refine⟨(i+1,pH y l[i]),z,hz,⟨hlt,tU 8 (uq _ _)⟩,by simp only;omega, ?_⟩;simp only[bA hlt];rfl
   ·have:i=l.length:=by omega
    subst this;exact .inr ⟨x+64,by simp[rq,cD.l0,oR],by simp⟩)
  (l.length+9) (0,x0) ⟨Nat.zero_le _,h0⟩ (by simp)
 simp[rq] at hr;simp[ba,cD.m,cD.b,aa,hr]
theorem jo.ak(h:jo.k M)(l:List UInt8)(hl:l.length≤4611686018427387904):run M 201 [.c (S l)] []=some (.c (Bt (sumOf l)),[]):=by
 have h1:=cC.ak h.2 l hl 4294967295 ⟨by decide,by decide⟩;refine au (b:=jo.m) h.1 ⟨0, ?_⟩;simp[ba,jo.m,jo.b,aa,h1,sumOf]
theorem ju.ak(h:ju.k M)(l:List UInt8)(hl:l.length≤4611686018427387904):run M 203 [.c (S l)] []=some (.c (Bt (sumOf l)),[]):=by
 have h1:=cD.ak h.2 l hl 4294967295 ⟨by decide,by decide⟩;refine au (b:=ju.m) h.1 ⟨0, ?_⟩;simp[ba,ju.m,ju.b,aa,h1,sumOf]
def byteOf(x:Int):UInt8:=UInt8.ofNat (x%256).toNat
def four(x:Int):List UInt8:=[byteOf (x/16777216),byteOf (x/65536),byteOf (x/256),byteOf x]
theorem tZ(x:Int):(four x).length=4:=rfl
theorem gU.ak(h:gU.k M)(x:Int):run M 202 [.c (Bt x)] []=some (.c (S (four x)),[]):=by
 refine au (b:=gU.m) h ⟨0, ?_⟩;have e1:x.fdiv 16777216=x/16777216:=Int.fdiv_eq_ediv_of_nonneg _ (by omega);have e2:x.fdiv 65536=x/65536:=Int.fdiv_eq_ediv_of_nonneg _ (by omega);have e3:x.fdiv 256=x/256:=Int.fdiv_eq_ediv_of_nonneg _ (by omega);simp[ba,gU.m,gU.b,aa,IntKind.bits,e1,e2,e3,mZ,four,byteOf,wrap_u8]
theorem kK.ak(h:kK.k M)(x:Int):run M 204 [.c (I x)] []=some (.c (S (four x)),[]):=by
 refine au (b:=kK.m) h ⟨0, ?_⟩;have e1:x.fdiv 16777216=x/16777216:=Int.fdiv_eq_ediv_of_nonneg _ (by omega);have e2:x.fdiv 65536=x/65536:=Int.fdiv_eq_ediv_of_nonneg _ (by omega);have e3:x.fdiv 256=x/256:=Int.fdiv_eq_ediv_of_nonneg _ (by omega);simp[ba,kK.m,kK.b,aa,IntKind.bits,e1,e2,e3,mZ,four,byteOf,wrap_u8]
def kU(l:List UInt8):List UInt8×Bool:=if 20000<l.length then([],false) else(l++four (sumOf l),true)
theorem gL.ak(h:gL.k M)(l:List UInt8)(hl:l.length≤4611686018427387904):run M 100 [.c (S l)] []=some (.lM [.c (S (kU l).1),.c (.bool (kU l).2)],[]):=by
 have h1:=jo.ak h.2.1 l hl;have h2:=gU.ak h.2.2 (sumOf l);refine au (b:=gL.m) h.1 ⟨0, ?_⟩;by_cases c:20000<l.length
 ·have c':20000<(l.length:Int):=by omega
  simp[ba,gL.m,gL.b,aa,kU,c,c']
 ·have c':¬20000<(l.length:Int):=by omega
  have e:=tZ (sumOf l);simp (disch:=(first|omega|(simp;done)|(simp;omega))) [ba,gL.m,gL.b,aa,kU,c,c',h1,h2,bT]
theorem iJ.ak(h:iJ.k M)(l:List UInt8)(hl:l.length≤4611686018427387904):run M 103 [.c (S l)] []=some (.lM [.c (S (kU l).1),.c (.bool (kU l).2)],[]):=by
 have h1:=ju.ak h.2.1 l hl;have h2:=kK.ak h.2.2 (sumOf l);refine au (b:=iJ.m) h.1 ⟨0, ?_⟩;by_cases c:20000<l.length
 ·have c':20000<(l.length:Int):=by omega
  simp[ba,iJ.m,iJ.b,aa,kU,c,c']
 ·have c':¬20000<(l.length:Int):=by omega
  have e:=tZ (sumOf l);have hin:=Ab l;have e2:IntKind.i64.wrap (sumOf l)=sumOf l:=wrap_i64 (by have:=hin.1;omega) (by have:=hin.2;omega);simp (disch:=(first|omega|(simp;done)|(simp;omega))) [ba,iJ.m,iJ.b,aa,kU,c,c',h1,h2,bT,e2]
def mP(l:List UInt8):List UInt8×Bool:=if 1≤l.length∧l.length≤6000 then kU (iT l) else([],false)
theorem fm.ak(h:fm.k M)(l:List UInt8)(hl:l.length≤4611686018427387904):run M 10 [.c (S l)] []=some (.lM [.c (S (mP l).1),.c (.bool (mP l).2)],[]):=by
 obtain⟨h0,k1,k2,k3⟩:=h;have hw:=bE.ak k1 l.length 1 6000;refine au (b:=fm.m) h0 ⟨0, ?_⟩;by_cases c:1≤l.length∧l.length≤6000
 ·have c1:(1:Int)≤l.length:=by omega
  have c2:(l.length:Int)≤6000:=by omega
  have h1:=bD.ak k2 l.length (by omega);have hv:=jC (n:=l.length) (by omega);have h2:=gL.ak k3 (kJ l.length++l) (by simp;omega);simp[c1,c2] at hw;simp (disch:=(first|omega|(simp;done)|(simp;omega))) [ba,fm.m,fm.b,aa,hw,h1,h2,mP,c,iT,bT]
 ·have hb:(decide ((1:Int)≤l.length)&&decide ((l.length:Int)≤6000))=false:=by
   rw[Bool.eq_false_iff];intro hh;simp only[aj,decide_eq_true_eq] at hh;omega
  rw[hb] at hw;simp[ba,fm.m,fm.b,aa,hw,mP,c]
def xv(a b c d:UInt8):Nat:=a.toNat*16777216+b.toNat*65536+c.toNat*256+d.toNat
theorem Ee(x:Int)(b:UInt8):byteOf x=b↔x%256=b.toNat:=by
 have hb:=b.toNat_lt;unfold byteOf;rw[←UInt8.toNat_inj];rw[UInt8.toNat_ofNat'];omega
theorem Iq{x:Int}(h:pX x)(a b c d:UInt8):four x=[a,b,c,d]↔x=xv a b c d:=by
 have ha:=a.toNat_lt;have hb:=b.toNat_lt;have hc:=c.toNat_lt;have hd:=d.toNat_lt;obtain⟨h1,h2⟩:=h;simp only[four,List.cons.injEq,and_true,Ee,xv];omega
theorem JM(n k d:Nat)(h:n<2^k):d*2^k|||n=d*2^k+n:=by
 have:=Nat.two_pow_add_eq_or_of_lt (i:=k) (b:=n) h d;rw[Nat.mul_comm d,←this]
theorem JN{m k d n:Nat}(hm:m=2^k)(h:n<m):d*m|||n=d*m+n:=by subst hm;exact JM n k d h
theorem Ja(a b:Nat):a*16777216+b*65536=(a*256+b)*65536:=by rw[Nat.add_mul,Nat.mul_assoc]
theorem G_(a b c:Nat):(a*256+b)*65536+c*256=(a*65536+b*256+c)*256:=by simp only[Nat.add_mul,Nat.mul_assoc]
theorem Ca(l:List UInt8)(n n1 n2 n3:Nat)(a b c d:Int)(i0:n<l.length)(i1:n1<l.length)(i2:n2<l.length)(i3:n3<l.length)(ha:(l[n].toNat:Int)=a)(hb:(l[n1].toNat:Int)=b)(hc:(l[n2].toNat:Int)=c)(hd:(l[n3].toNat:Int)=d)
  (w11:IntKind.i64.wrap ((n:Int)+1)=(n1:Int)) (w12:IntKind.i64.wrap ((n:Int)+2)=(n2:Int)) (w13:IntKind.i64.wrap ((n:Int)+3)=(n3:Int)) (va:IntKind.i64.wrap a=a) (vb:IntKind.i64.wrap b=b) (vc:IntKind.i64.wrap c=c) (vd:IntKind.i64.wrap d=d)
  (y1 y2 y3 z1 z2 z3:Int) (sh1:nA .shl .i64 a 24=some (.int .i64 y1)) (sh2:nA .shl .i64 b 16=some (.int .i64 y2)) (sh3:nA .shl .i64 c 8=some (.int .i64 y3))
  (o1:EC .i64 y1 y2=z1) (o2:EC .i64 z1 y3=z2) (o3:EC .i64 z2 d=z3):
  ba (run M) 0 gQ.m [.c (S l),.c (I n)] []=some (.c (I z3),[]):=by
 simp[ba,gQ.m,gQ.b,aa,d_,i0,i1,i2,i3,ha,hb,hc,hd,w11,w12,w13,va,vb,vc,vd,sh1,sh2,sh3,o1,o2,o3,-nA]
theorem gQ.K6(h:gQ.k M)(l:List UInt8)(n n1 n2 n3:Nat)(m1:n1=n+1)(m2:n2=n+2)(m3:n3=n+3)(i0:n<l.length)(i1:n1<l.length)(i2:n2<l.length)(i3:n3<l.length)(hl:l.length≤4611686018427387904):
  run M 236 [.c (S l),.c (I n)] []=some (.c (I (xv l[n] l[n1] l[n2] l[n3])),[]):=by
 refine au (b:=gQ.m) h ⟨0, ?_⟩;obtain⟨a,ha⟩:∃b,l[n]=b:=⟨_,rfl⟩
 obtain⟨b,hb⟩:∃b,l[n1]=b:=⟨_,rfl⟩
 obtain⟨c,hc⟩:∃b,l[n2]=b:=⟨_,rfl⟩
 obtain⟨d,hd⟩:∃b,l[n3]=b:=⟨_,rfl⟩
 rw[ha,hb,hc,hd];have ha':=a.toNat_lt;have hb':=b.toNat_lt;have hc':=c.toNat_lt;have hd':=d.toNat_lt;have w11:IntKind.i64.wrap ((n:Int)+1)=(n1:Int):=by rw[wrap_i64 (by omega) (by omega)];omega
 have w12:IntKind.i64.wrap ((n:Int)+2)=(n2:Int):=by rw[wrap_i64 (by omega) (by omega)];omega
 have w13:IntKind.i64.wrap ((n:Int)+3)=(n3:Int):=by rw[wrap_i64 (by omega) (by omega)];omega
 clear m1 m2 m3;have v:∀x:UInt8,IntKind.i64.wrap (x.toNat:Int)=x.toNat:=fun x=>wrap_i64 (by omega) (by have:=x.toNat_lt;omega)
 have s1:IntKind.i64.wrap ((a.toNat:Int)*16777216)=(a.toNat:Int)*16777216:=wrap_i64 (by omega) (by omega);have s2:IntKind.i64.wrap ((b.toNat:Int)*65536)=(b.toNat:Int)*65536:=wrap_i64 (by omega) (by omega);have s3:IntKind.i64.wrap ((c.toNat:Int)*256)=(c.toNat:Int)*256:=wrap_i64 (by omega) (by omega);obtain⟨z1,hz1⟩:∃z:Nat,z=a.toNat*16777216+b.toNat*65536:=⟨_,rfl⟩
 obtain⟨z2,hz2⟩:∃z:Nat,z=z1+c.toNat*256:=⟨_,rfl⟩
 obtain⟨z3,hz3⟩:∃z:Nat,z=z2+d.toNat:=⟨_,rfl⟩
 have o1:EC .i64 ((a.toNat:Int)*16777216) ((b.toNat:Int)*65536)=(z1:Int):=by
  have:=wV (a.toNat*16777216) (b.toNat*65536) (by omega) (by omega);rw[JN (m:=16777216) (k:=24) (by simp) (by omega),←hz1] at this;rw[show (a.toNat:Int)*16777216=((a.toNat*16777216:Nat):Int) by omega,show (b.toNat:Int)*65536=((b.toNat*65536:Nat):Int) by omega];exact this
 have o2:EC .i64 (z1:Int) ((c.toNat:Int)*256)=(z2:Int):=by
  have:=wV z1 (c.toNat*256) (by omega) (by omega);have e:z1=(a.toNat*256+b.toNat)*65536:=by rw[hz1];exact Ja _ _
  have e2:=JN (m:=65536) (k:=16) (d:=a.toNat*256+b.toNat) (n:=c.toNat*256) (by simp) (by omega);rw[←e,←hz2] at e2;rw[e2] at this;rw[show (c.toNat:Int)*256=((c.toNat*256:Nat):Int) by omega];exact this
 have o3:EC .i64 (z2:Int) (d.toNat:Int)=(z3:Int):=by
  have:=wV z2 d.toNat (by omega) (by omega);have e:z2=(a.toNat*65536+b.toNat*256+c.toNat)*256:=by rw[hz2,hz1,Ja];exact G_ _ _ _
  have e2:=JN (m:=256) (k:=8) (d:=a.toNat*65536+b.toNat*256+c.toNat) (n:=d.toNat) (by simp) (by omega);rw[←e,←hz3] at e2;rw[e2] at this;exact this
 have hz:xv a b c d=z3:=by unfold xv;omega
 rw[hz];clear hz hz3 hz2 hz1;have sh1:nA .shl .i64 (a.toNat:Int) 24=some (.int .i64 ((a.toNat:Int)*16777216)):=by simp[IntKind.bits,s1]
 have sh2:nA .shl .i64 (b.toNat:Int) 16=some (.int .i64 ((b.toNat:Int)*65536)):=by simp[IntKind.bits,s2]
 have sh3:nA .shl .i64 (c.toNat:Int) 8=some (.int .i64 ((c.toNat:Int)*256)):=by simp[IntKind.bits,s3]
 clear s1 s2 s3;obtain⟨y1,hy1⟩:∃y:Int,y=(a.toNat:Int)*16777216:=⟨_,rfl⟩
 obtain⟨y2,hy2⟩:∃y:Int,y=(b.toNat:Int)*65536:=⟨_,rfl⟩
 obtain⟨y3,hy3⟩:∃y:Int,y=(c.toNat:Int)*256:=⟨_,rfl⟩
 rw[←hy1] at sh1 o1;rw[←hy2] at sh2 o1;rw[←hy3] at sh3 o2;clear hy1 hy2 hy3;exact Ca l n n1 n2 n3 a.toNat b.toNat c.toNat d.toNat i0 i1 i2 i3 (by rw[ha]) (by rw[hb]) (by rw[hc]) (by rw[hd]) w11 w12 w13 (v a) (v b) (v c) (v d) y1 y2 y3 z1 z2 z3 sh1 sh2 sh3 o1 o2 o3
theorem gQ.ak(h:gQ.k M)(l:List UInt8)(n:Nat)(hn:n+4≤l.length)(hl:l.length≤4611686018427387904):
  run M 236 [.c (S l),.c (I n)] []=some (.c (I (xv l[n] l[n+1] l[n+2] l[n+3])),[]):=
 gQ.K6 h l n (n+1) (n+2) (n+3) rfl rfl rfl (by omega) (by omega) (by omega) (by omega) hl
def fC(l:List UInt8):List UInt8×Bool:=
 if 4≤l.length∧l.length≤20004∧l.drop (l.length-4)=four (sumOf (l.take (l.length-4))) then(l.take (l.length-4),true) else([],false)
theorem eO.ak(h:eO.k M)(l:List UInt8)(hl:l.length≤4611686018427387904):run M 167 [.c (S l)] []=some (.lM [.c (S (fC l).1),.c (.bool (fC l).2)],[]):=by
 have e1:IntKind.i64.wrap ((l.length:Int)-4)=(l.length:Int)-4:=wrap_i64 (by omega) (by omega);refine au (b:=eO.m) h.1 ⟨0, ?_⟩;by_cases c1:4≤l.length;rotate_left
 ·have d1:(l.length:Int)-4<0:=by omega
  simp[ba,eO.m,eO.b,aa,e1,d1,fC,c1]
 have d1:¬(l.length:Int)-4<0:=by omega
 by_cases c2:l.length≤20004;rotate_left
 ·have d2:20000<(l.length:Int)-4:=by omega
  simp[ba,eO.m,eO.b,aa,e1,d1,d2,fC,c1,c2]
 have d2:¬20000<(l.length:Int)-4:=by omega
 have h1:=jo.ak h.2.1 (l.take (l.length-4)) (by simp;omega);have h2:=gU.ak h.2.2 (sumOf (l.take (l.length-4)));have e2:((l.length:Int)-4).toNat=l.length-4:=by omega
 have e3:(0:Int)≤(l.length:Int)-4:=by omega
 have e3':(4:Int)≤(l.length:Int):=by omega
 have e4:l.length-4≤l.length:=by omega
 by_cases c3:l.drop (l.length-4)=four (sumOf (l.take (l.length-4)))
 ·simp[ba,eO.m,eO.b,aa,e1,d1,d2,e2,e3',e4,h1,h2,fC,c1,c2,c3]
 ·simp[ba,eO.m,eO.b,aa,e1,d1,d2,e2,e3',e4,h1,h2,fC,c1,c2,c3]
theorem D7(l:List UInt8)(n:Nat)(h:n+4=l.length):l.drop n=[l[n],l[n+1],l[n+2],l[n+3]]:=by
 apply List.ext_getElem
 ·simp;omega
 ·intro i h1 h2;simp at h2;have:i=0∨i=1∨i=2∨i=3:=by omega
  rcases this with rfl|rfl|rfl|rfl<;>simp
theorem eS.ak(h:eS.k M)(l:List UInt8)(hl:l.length≤4611686018427387904):run M 168 [.c (S l)] []=some (.lM [.c (S (fC l).1),.c (.bool (fC l).2)],[]):=by
 obtain⟨h0,k1,k2,k3⟩:=h;have e1:IntKind.i64.wrap ((l.length:Int)-4)=(l.length:Int)-4:=wrap_i64 (by omega) (by omega);have hw:=bP.ak k1 ((l.length:Int)-4) 0 20000;refine au (b:=eS.m) h0 ⟨0, ?_⟩;by_cases c:4≤l.length∧l.length≤20004;rotate_left
 ·have hb:(decide ((0:Int)≤(l.length:Int)-4)&&decide ((l.length:Int)-4≤20000))=false:=by
   rw[Bool.eq_false_iff];intro hh;simp only[aj,decide_eq_true_eq] at hh;omega
  rw[hb] at hw;have:fC l=([],false):=by unfold fC;rw[if_neg (fun q=>c ⟨q.1,q.2.1⟩)]
  simp[ba,eS.m,eS.b,aa,e1,hw,this]
 obtain⟨c1,c2⟩:=c;have hb:(decide ((0:Int)≤(l.length:Int)-4)&&decide ((l.length:Int)-4≤20000))=true:=by
  simp only[aj,decide_eq_true_eq];omega
 rw[hb] at hw;have h1:=ju.ak k2 (l.take (l.length-4)) (by simp;omega);have hin:=Ab (l.take (l.length-4));have h2:=gQ.ak k3 l (l.length-4) (by omega) hl;rw[show ((l.length-4:Nat):Int)=(l.length:Int)-4 by omega] at h2;have hd:=D7 l (l.length-4) (by omega);have hq:=Iq hin (l[l.length-4]'(by omega)) (l[l.length-4+1]'(by omega)) (l[l.length-4+2]'(by omega)) (l[l.length-4+3]'(by omega));rw[←hd] at hq;have e2:((l.length:Int)-4).toNat=l.length-4:=by omega
 have e3:(0:Int)≤(l.length:Int)-4:=by omega
 have e3':(4:Int)≤(l.length:Int):=by omega
 have e4:l.length-4≤l.length:=by omega
 have e5:IntKind.i64.wrap (sumOf (l.take (l.length-4)))=sumOf (l.take (l.length-4)):=wrap_i64 (by have:=hin.1;omega) (by have:=hin.2;omega);unfold fC;generalize xv (l[l.length-4]'(by omega)) (l[l.length-4+1]'(by omega)) (l[l.length-4+2]'(by omega)) (l[l.length-4+3]'(by omega))=z at h2 hq;by_cases c3:l.drop (l.length-4)=four (sumOf (l.take (l.length-4)))
 ·have c4:=hq.1 c3.symm;have e6:IntKind.i64.wrap (z:Int)=z:=by rw[c4] at e5;exact e5
  rw[if_pos ⟨c1,c2,c3⟩];simp[ba,eS.m,eS.b,aa,e1,hw,e2,e3',e4,h1,h2,c4,e6]
 ·have c4:¬sumOf (l.take (l.length-4))=z:=fun q=>c3 (hq.2 q).symm
  rw[if_neg (fun q=>c3 q.2.2)];simp[ba,eS.m,eS.b,aa,e1,hw,e2,e3',e4,h1,h2,e5,c4]
theorem uA(l:List UInt8)(a:Nat):∀d k n r,nv l a d k n=some r→r.2.2=true→a<r.2.1∧r.2.1≤l.length∧kJ r.1=(l.drop a).take (r.2.1-a)
 |0,k,n,r,h=>by simp[nv] at h
 |d+1,k,n,r,hr=>by
  intro hq;rw[nv] at hr;by_cases h:a+k<l.length
  ·rw[dif_pos h] at hr;split at hr
   ·simp only[aH] at hr;subst hr;split at hq
    ·rename_i hc;rw[if_pos hc];refine⟨by simp only;omega,by simp only;omega, ?_⟩;simp only;rw[hc.2];congr 1;omega
    ·cases hq
   ·exact uA l a d (k+1) _ r hr hq
  ·rw[dif_neg h] at hr;cases hr
theorem oU(l:List UInt8)(a:Int)(h:(c_ l a).2.2=true):∃m:Nat,a=m∧m<(c_ l a).2.1∧(c_ l a).2.1≤l.length∧(l.take (c_ l a).2.1).drop m=iT (c_ l a).1∧(c_ l a).1.length≤20000:=by
 unfold c_ at h ⊢;split at h
 ·rename_i hc;rw[if_pos hc];obtain⟨c1,c2,c3⟩:=hc;simp only;unfold fQ at c1 c2 c3 ⊢;split at c1
  ·rename_i hr;rw[if_pos hr] at c2 c3 ⊢;obtain⟨m,rfl⟩:=gJ hr.1;simp only[fB] at c1 c2 c3 ⊢;cases hg:nv l m 5 0 0 with
   |none=>rw[hg] at c1;cases c1
   |some r=>
    rw[hg] at c1 c2 c3;simp only[jU] at c1 c2 c3 ⊢;obtain⟨q1,q2,q3⟩:=uA l m 5 0 0 r hg c1;refine⟨m,rfl,by omega,by omega, ?_,by simp;omega⟩;have hlen:((l.drop r.2.1).take r.1).length=r.1:=by simp;omega
    unfold iT;rw[hlen,q3,List.drop_take];have e1:r.2.1+r.1-m=(r.2.1-m)+r.1:=by omega
    rw[e1,List.take_add,List.drop_drop];congr 3;omega
  ·cases c1
 ·cases h
def recAt(l:List UInt8)(a:Int):List UInt8×Nat×Bool:=
 if(c_ l a).2.2=true∧(1≤(c_ l a).1.length∧(c_ l a).1.length≤6000)∧(c_ l a).2.1+4≤l.length∧(l.drop (c_ l a).2.1).take 4=four (sumOf (iT (c_ l a).1)) then((c_ l a).1,(c_ l a).2.1+4,true) else([],0,false)
theorem yt(l:List UInt8)(m e:Nat)(h:m≤e)(he:e≤l.length):(l.take (e+4)).drop m=(l.take e).drop m++(l.drop e).take 4:=by
 rw[List.take_add,List.drop_append_of_le_length (by simp;omega)]
theorem eC.ak(h:eC.k M)(l:List UInt8)(hl:l.length≤1048576)(a:Int):
  run M 104 [.c (S l),.c (I a)] []=some (.lM [.c (S (recAt l a).1),.c (I (recAt l a).2.1),.c (.bool (recAt l a).2.2)],[]):=by
 have h1:=cW.ak h.2.2 l (by omega) a;have hok:=oU l a;refine au (b:=eC.m) h.1 ⟨0, ?_⟩;unfold recAt;generalize (c_ l a).1=t at*;generalize (c_ l a).2.1=e at*;generalize (c_ l a).2.2=ok at*;cases ok with
 |false=>simp[ba,eC.m,eC.b,aa,h1]
 |true=>
  obtain⟨m,rfl,p1,p2,p3,p4⟩:=hok rfl;have h2:=fm.ak h.2.1 t (by omega);have e1:IntKind.i64.wrap ((l.length:Int)-4)=(l.length:Int)-4:=wrap_i64 (by omega) (by omega);by_cases c1:e+4≤l.length;rotate_left
  ·have c1':(l.length:Int)-4<e:=by omega
   simp[ba,eC.m,eC.b,aa,h1,e1,c1,c1']
  have c1':¬(l.length:Int)-4<e:=by omega
  by_cases c2:1≤t.length∧t.length≤6000;rotate_left
  ·have hr:mP t=([],false):=by unfold mP;rw[if_neg c2]
   rw[hr] at h2;simp[ba,eC.m,eC.b,aa,h1,e1,c1,c1',c2,h2]
  have hv:=jC (n:=t.length) (by omega);have hr:mP t=(iT t++four (sumOf (iT t)),true):=by
   unfold mP kU;rw[if_pos c2,if_neg (by simp[iT];omega)]
  rw[hr] at h2;have e2:IntKind.i64.wrap ((e:Int)+4)=(e:Int)+4:=wrap_i64 (by omega) (by omega);have e3:((e:Int)+4).toNat=e+4:=by omega
  have e4:(0:Int)≤(e:Int)+4:=by omega
  have e5:m≤e+4:=by omega
  have hx:=yt l m e (by omega) p2;rw[p3] at hx;have hx':List.take (e+4-m) (List.drop m l)=iT t++(l.drop e).take 4:=by rw[←hx,List.drop_take]
  have e6:IntKind.i64.wrap ((e:Int)+4)=((e+4:Nat):Int):=by rw[e2];omega
  generalize (l.drop e).take 4=w at*;generalize four (sumOf (iT t))=f at*;generalize iT t=s at*;by_cases c3:w=f
  ·subst c3;simp[ba,eC.m,eC.b,aa,h1,e1,c1,c1',c2,h2,e2,e3,e4,e5,hx]
  ·have c4:¬f=w:=fun q=>c3 q.symm
   simp[ba,eC.m,eC.b,aa,h1,e1,c1,c1',c2,h2,e2,e3,e4,e5,hx,c3,c4]
theorem du.ak(h:du.k M)(l:List UInt8)(hl:l.length≤1048576)(a:Int):
  run M 105 [.c (S l),.c (I a)] []=some (.lM [.c (S (recAt l a).1),.c (I (recAt l a).2.1),.c (.bool (recAt l a).2.2)],[]):=by
 obtain⟨h0,k1,k2,k3⟩:=h;have h1:=cY.ak k3 l (by omega) a;have hok:=oU l a;refine au (b:=du.m) h0 ⟨0, ?_⟩;unfold recAt;generalize (c_ l a).1=t at*;generalize (c_ l a).2.1=e at*;generalize (c_ l a).2.2=ok at*;cases ok with
 |false=>simp[ba,du.m,du.b,aa,h1]
 |true=>
  obtain⟨m,rfl,p1,p2,p3,p4⟩:=hok rfl;have hw:=bP.ak k1 t.length 1 6000;by_cases c2:1≤t.length∧t.length≤6000;rotate_left
  ·have hb:(decide ((1:Int)≤t.length)&&decide ((t.length:Int)≤6000))=false:=by
    rw[Bool.eq_false_iff];intro hh;simp only[aj,decide_eq_true_eq] at hh;omega
   rw[hb] at hw;simp[ba,du.m,du.b,aa,h1,hw,c2]
  have hb:(decide ((1:Int)≤t.length)&&decide ((t.length:Int)≤6000))=true:=by
   simp only[aj,decide_eq_true_eq];omega
  rw[hb] at hw;have e1:IntKind.i64.wrap ((l.length:Int)-e)=(l.length:Int)-e:=wrap_i64 (by omega) (by omega);by_cases c1:e+4≤l.length;rotate_left
  ·have c1':(l.length:Int)-e<4:=by omega
   simp[ba,du.m,du.b,aa,h1,hw,c2,e1,c1,c1']
  have c1':¬(l.length:Int)-e<4:=by omega
  have hv:=jC (n:=t.length) (by omega);have hsl:(iT t).length≤6010:=by simp[iT];omega
  have e2:IntKind.i64.wrap ((e:Int)+4)=(e:Int)+4:=wrap_i64 (by omega) (by omega);have e3:((e:Int)+4).toNat=e+4:=by omega
  have e4:(0:Int)≤(e:Int)+4:=by omega
  have e5:m≤e+4:=by omega
  have hx:=yt l m e (by omega) p2;rw[p3] at hx;have hx':List.take (e+4-m) (List.drop m l)=iT t++(l.drop e).take 4:=by rw[←hx,List.drop_take]
  have hw4:((l.drop e).take 4).length=4:=by simp;omega
  have h2:=eS.ak k2 (iT t++(l.drop e).take 4) (by simp;omega);have hu:(fC (iT t++(l.drop e).take 4)).2=decide ((l.drop e).take 4=four (sumOf (iT t))):=by
   have q1:(iT t++(l.drop e).take 4).length-4=(iT t).length:=by rw[aD,hw4];omega
   unfold fC;rw[q1,List.take_left' rfl,List.drop_left' rfl];by_cases c:(l.drop e).take 4=four (sumOf (iT t))
   ·rw[if_pos ⟨by rw[aD,hw4];omega,by rw[aD,hw4];omega,c⟩];simp[c]
   ·rw[if_neg (fun q=>c q.2.2)];simp[c]
  rw[hu] at h2;generalize (fC (iT t++(l.drop e).take 4)).1=u at h2;clear hu hw4;generalize (l.drop e).take 4=w at*;generalize four (sumOf (iT t))=f at*;generalize iT t=s at*;by_cases c3:w=f
  ·subst c3;simp at h2;simp[ba,du.m,du.b,aa,h1,hw,e1,c1,c1',c2,h2,e2,e3,e4,e5,hx]
  ·simp[c3] at h2;simp[ba,du.m,du.b,aa,h1,hw,e1,c1,c1',c2,h2,e2,e3,e4,e5,hx,c3]
def It(d:Nat):UInt8:=UInt8.ofNat (48+d)
def xG(m:Nat)(acc:List UInt8):List UInt8:=if m=0 then acc else xG (m/10) (It (m%10)::acc)
termination_by m
decreasing_by omega
theorem sv(acc:List UInt8):xG 0 acc=acc:=by rw[xG];simp
theorem uN{m:Nat}(h:m≠0)(acc:List UInt8):xG m acc=xG (m/10) (It (m%10)::acc):=by rw[xG,if_neg h]
def dec(n:Int):List UInt8:=if n=0 then [48] else(if n<0 then [45] else [])++xG n.natAbs []
theorem xF:∀(k m:Nat) (acc:List UInt8),m<10^k→(xG m acc).length≤acc.length+k:=by
 intro k
 induction k with
 |zero=>intro m acc h;have:m=0:=by simpa using h
        subst this;rw[sv];omega
 |succ k ih=>
  intro m acc h;by_cases h0:m=0
  ·subst h0;rw[sv];omega
  ·rw[uN h0];have:=ih (m/10) (It (m%10)::acc) (by rw[Nat.pow_succ] at h;omega);simp at this;omega
theorem Dg{n:Int}(h: -9223372036854775808≤n)(h':n≤9223372036854775807):(dec n).length≤21:=by
 unfold dec;have:=xF 20 n.natAbs [] (by omega);simp at this;split
 ·simp
 ·split<;>simp<;>omega
theorem gC.ak(h:gC.k M)(d:Nat)(hd:d<10):run M 247 [.c (I d)] []=some (.c (U8 (It d).toNat),[]):=by
 refine au (b:=gC.m) h ⟨0, ?_⟩;have e0:(d:Int)<10:=by omega
 have e1:IntKind.i64.wrap (48+(d:Int))=48+(d:Int):=wrap_i64 (by omega) (by omega);have e2:IntKind.u8.wrap (48+(d:Int))=((It d).toNat:Int):=by
  unfold IntKind.wrap;simp[IntKind.bits,IntKind.signed,It]<;>omega
 simp[ba,gC.m,gC.b,aa,e0,e1,e2]
def wK(b:Bool)(s:Int×List UInt8)(x:Nat):St:={t:=[(0,.c (I s.1)),(3,.c (.bool b)),(4,.c (S s.2))],o:=[],n:=x}
def uO(s:Int×List UInt8):Prop:= -9223372036854775808≤s.1∧s.1≤9223372036854775807∧∃k,s.1.natAbs<10^k∧s.2.length+k≤20
theorem vL{n:Int}{acc:List UInt8}(h:uO (n,acc))(h0:n≠0)(b:UInt8):uO (n.tdiv 10,b::acc):=by
 obtain⟨h1,h2,k,h3,h4⟩:=h;simp only at h1 h2 h3 h4;have e:(n.tdiv 10).natAbs=n.natAbs/10:=by rw[Int.natAbs_tdiv];rfl
 cases k with
 |zero=>simp at h3;omega
 |succ k=>exact⟨by simp only;omega,by simp only;omega,k,by simp only;rw[e];rw[Nat.pow_succ] at h3;omega,by simp;omega⟩
theorem tv(n:Int):n.tmod 10=(n.natAbs%10:Nat)∨(n.tmod 10<0∧n.tmod 10= - (n.natAbs%10:Nat)):=by
 have e:(n.tmod 10).natAbs=n.natAbs%10:=by rw[Int.natAbs_tmod];rfl
 omega
theorem cQ.round(h:cQ.k M)(k:Nat)(b:Bool)(s:Int×List UInt8)(x:Nat)(hi:uO s)(h0:s.1≠0):
  ∃y,cz (run M) k cQ.l0 (wK b s x)=some (.normal,wK b (s.1.tdiv 10,It (s.1.natAbs%10)::s.2) y):=by
 obtain⟨n,acc⟩:=s;obtain⟨h1,h2,k',h3,h4⟩:=hi;simp only at h0 h1 h2 h3 h4;have hf:=gC.ak h.2 (n.natAbs%10) (by omega);have ed:(n.tdiv 10).natAbs=n.natAbs/10:=by rw[Int.natAbs_tdiv];rfl
 have e1:IntKind.i64.wrap (n.tdiv 10)=n.tdiv 10:=wrap_i64 (by omega) (by omega);have e2:acc.length+1≤4611686018427387904:=by omega
 have e3:1+acc.length≤4611686018427387904:=by omega
 rcases tv n with ht|⟨ht0,ht⟩
 ·have e0:¬(((n.natAbs%10:Nat):Int)<0):=by omega
  generalize n.natAbs%10=d at*;simp only[wK,cQ.l0];simp (disch:=(first|omega|(simp;done)|(simp;omega))) [h0,ht,hf,e1,e0,bT,mZ]
 ·have e0:n.tmod 10<0:=ht0;have e4:IntKind.i64.wrap (0-n.tmod 10)=((n.natAbs%10:Nat):Int):=by rw[wrap_i64 (by omega) (by omega)];omega
  generalize n.natAbs%10=d at*;simp only[wK,cQ.l0];simp only[Int.zero_sub] at e4;simp (disch:=(first|omega|(simp;done)|(simp;omega))) [h0,e0,e4,hf,e1,bT,mZ]
theorem cQ.ak(h:cQ.k M)(n:Int)(hn: -9223372036854775808≤n)(hn':n≤9223372036854775807):run M 197 [.c (I n)] []=some (.c (S (dec n)),[]):=by
 refine au (b:=cQ.m) h.1 ⟨n.natAbs+1, ?_⟩;by_cases h0:n=0
 ·simp[ba,cQ.m,cQ.b,aa,h0,dec]
 obtain⟨g,hr⟩:=iN (f:=cz (run M) (n.natAbs+1) cQ.l0) (wK (decide (n<0))) uO (fun s=>s.1.natAbs) (fun s=>xG s.1.natAbs s.2)
  (fun q m=>(.exit 0,{t:=[(0,.c (I 0)),(3,.c (.bool (decide (n<0)))),(4,.c (S q)),(11,.c (.bool false))],o:=[],n:=m}))
  (by
   intro s x hi;by_cases hs:s.1=0
   ·right;exact⟨x+32,by simp[wK,cQ.l0,hs,sv],by simp⟩
   ·left;obtain⟨y,hy⟩:=cQ.round h (n.natAbs+1) (decide (n<0)) s x hi hs;have e:(s.1.tdiv 10).natAbs=s.1.natAbs/10:=by rw[Int.natAbs_tdiv];rfl
    refine⟨_,y,hy,vL hi hs _,by simp only;omega, ?_⟩;simp only[e];exact(uN (by omega) _).symm)
  (n.natAbs+1) (n,[]) ⟨hn,hn',20,by simp only;omega,by simp⟩ (by simp only;omega)
 have hl:=xF 20 n.natAbs [] (by omega);simp[wK] at hr hl;by_cases hneg:n<0
 ·simp[hneg] at hr;simp (disch:=(first|omega|(simp;done)|(simp;omega))) [ba,cQ.m,cQ.b,aa,h0,dec,hneg,hr,bT]
 ·simp[hneg] at hr;simp (disch:=(first|omega|(simp;done)|(simp;omega))) [ba,cQ.m,cQ.b,aa,h0,dec,hneg,hr]
def yN(n:Int)(s:Int×List UInt8)(x:Nat):St:={t:=[(0,.c (I n)),(3,.c (S s.2)),(4,.c (I s.1))],o:=[],n:=x}
theorem Kb:∀d:Nat,d<10→∃h:d<16,([48,49,50,51,52,53,54,55,56,57,97,98,99,100,101,102]:List UInt8)[d]=It d:=by decide
theorem dh.round(k:Nat)(n0:Int)(s:Int×List UInt8)(x:Nat)(hi:uO s)(h0:s.1≠0):
  ∃y,cz (run M) k dh.l0 (yN n0 s x)=some (.normal,yN n0 (s.1.tdiv 10,It (s.1.natAbs%10)::s.2) y):=by
 obtain⟨n,acc⟩:=s;obtain⟨h1,h2,k',h3,h4⟩:=hi;simp only at h0 h1 h2 h3 h4;have ed:(n.tdiv 10).natAbs=n.natAbs/10:=by rw[Int.natAbs_tdiv];rfl
 have e1:IntKind.i64.wrap (n.tdiv 10)=n.tdiv 10:=wrap_i64 (by omega) (by omega);have e2:acc.length+1≤4611686018427387904:=by omega
 have e3:1+acc.length≤4611686018427387904:=by omega
 have hd:n.natAbs%10<10:=by omega
 have e5:IntKind.i64.wrap (((n.natAbs%10:Nat):Int)+1)=((n.natAbs%10+1:Nat):Int):=wrap_i64 (by omega) (by omega);have e4:IntKind.i64.wrap (-(n.tmod 10))= -(n.tmod 10):=wrap_i64 (by have:=tv n;omega) (by have:=tv n;omega);have e6:(if n.tmod 10< -(n.tmod 10) then -(n.tmod 10) else n.tmod 10)=((n.natAbs%10:Nat):Int):=by
  rcases tv n with ht|⟨ht0,ht⟩<;>split<;>omega
 generalize n.natAbs%10=d at*;obtain⟨hd16,hfig⟩:=Kb d hd;have e7:=BD ([48,49,50,51,52,53,54,55,56,57,97,98,99,100,101,102]:List UInt8) d hd16;rw[hfig] at e7;simp only[List.take_succ_cons] at e7;have e8:d+1≤16:=by omega
 have e9:(0:Int)≤(d:Int)+1:=by omega
 have e10:((d:Int)+1).toNat=d+1:=by omega
 simp only[yN,dh.l0];simp (disch:=(first|omega|(simp;done)|(simp;omega))) [h0,e4,e5,e6,e7,e8,e9,e10,e1,bT]
theorem dh.ak(h:dh.k M)(n:Int)(hn: -9223372036854775808≤n)(hn':n≤9223372036854775807):run M 128 [.c (I n)] []=some (.c (S (dec n)),[]):=by
 refine au (b:=dh.m) h ⟨n.natAbs+1, ?_⟩;by_cases h0:n=0
 ·simp[ba,dh.m,dh.b,aa,h0,dec]
 obtain⟨g,hr⟩:=iN (f:=cz (run M) (n.natAbs+1) dh.l0) (yN n) uO (fun s=>s.1.natAbs) (fun s=>xG s.1.natAbs s.2)
  (fun q m=>(.exit 0,{t:=[(0,.c (I n)),(3,.c (S q)),(4,.c (I 0)),(10,.c (.bool false))],o:=[],n:=m}))
  (by
   intro s x hi;by_cases hs:s.1=0
   ·right;exact⟨x+32,by simp[yN,dh.l0,hs,sv],by simp⟩
   ·left;obtain⟨y,hy⟩:=dh.round (n.natAbs+1) n s x hi hs;have e:(s.1.tdiv 10).natAbs=s.1.natAbs/10:=by rw[Int.natAbs_tdiv];rfl
    refine⟨_,y,hy,vL hi hs _,by simp only;omega, ?_⟩;simp only[e];exact(uN (by omega) _).symm)
  (n.natAbs+1) (n,[]) ⟨hn,hn',20,by simp only;omega,by simp⟩ (by simp only;omega)
 have hl:=xF 20 n.natAbs [] (by omega);simp[yN] at hr hl;by_cases hneg:n<0
 ·simp (disch:=(first|omega|(simp;done)|(simp;omega))) [ba,dh.m,dh.b,aa,h0,dec,hneg,hr,bT]
 ·simp (disch:=(first|omega|(simp;done)|(simp;omega))) [ba,dh.m,dh.b,aa,h0,dec,hneg,hr]
def l_(l:List (List UInt8)):List (List T):=l.map fun s=>[S s]
theorem tC(l:List (List UInt8)):(l_ l).length=l.length:=by simp[l_]
theorem CN(l:List (List UInt8))(i:Nat)(h:i<(l_ l).length):(l_ l)[i]=[S (l[i]'(by simpa [l_] using h))]:=by simp[l_]
theorem Af(a b:List (List UInt8)):l_ a++l_ b=l_ (a++b):=by simp[l_]
theorem Fe:l_ []=[]:=rfl
theorem DJ(l:List (List UInt8))(n:Nat):(l_ l).take n=l_ (l.take n):=by simp[l_]
theorem yy(l:List (List UInt8))(s:List UInt8):l_ l++[[S s]]=l_ (l++[s]):=by simp[l_]
theorem DK(l:List (List UInt8)):(l_ l).all (fun r=>r.all T.scalar)=true:=by
 simp only[l_,List.all_map,fL];intro n _;rfl
attribute [simp] tC CN Af Fe DJ DK
def nT(l:List UInt8):Nat→Nat→List (List UInt8)→List (List UInt8)×Nat
 |0,a,acc=>(acc,a)
 |d+1,a,acc=>if(recAt l a).2.2=true then nT l d (recAt l a).2.1 (acc++[(recAt l a).1]) else(acc,a)
def kN(l:List UInt8):List (List UInt8)×Nat:=nT l (l.length+1) 0 []
theorem Av(l:List UInt8)(a:Nat)(h:(recAt l a).2.2=true):a<(recAt l a).2.1∧(recAt l a).2.1≤l.length:=by
 unfold recAt at h ⊢;split at h
 ·rename_i c;rw[if_pos c];obtain⟨m,e,h1,h2,_⟩:=oU l a c.1;have:m=a:=by omega
  subst this;exact⟨by simp only;omega,c.2.2.1⟩
 ·cases h
theorem p7(l:List UInt8):∀d a acc,a≤l.length→acc.length≤a→(nT l d a acc).1.length≤l.length∧(nT l d a acc).2≤l.length
 |0,a,acc,h,h'=>⟨by simp only[nT];omega,h⟩
 |d+1,a,acc,h,h'=>by
  rw[nT];by_cases c:(recAt l a).2.2=true
  ·rw[if_pos c];have:=Av l a c;exact p7 l d _ _ this.2 (by simp;omega)
  ·rw[if_neg c];exact⟨by simp only;omega,h⟩
def wJ(l:List UInt8)(s:Nat×Nat×List (List UInt8))(x:Nat×Nat):St:={t:=[(0,.c (S l)),(4,.c (.row 9 x.1 0 s.2.2.length)),(5,.c (I s.2.1))],o:=[(9,⟨x.1,1,true,false,l_ s.2.2⟩)],n:=x.2}
def K7(l:List UInt8)(s:Nat×Nat×List (List UInt8)):Prop:=s.2.1≤l.length∧l.length<s.2.1+s.1∧s.2.2.length≤s.2.1
def vj(q:List (List UInt8)×Nat)(m:Nat×Nat):Out×St:=(.ret,{t:=[(2,.c (.row 9 m.1 0 q.1.length)),(3,.c (I q.2))],o:=[(9,⟨m.1,1,true,false,l_ q.1⟩)],n:=m.2})
theorem CT(num:Nat)(l0:C)(l:List UInt8)(hl:l.length≤1048576)
  (hgo:∀a acc v x,(recAt l (a:Nat)).2.2=true→acc.length≤4294967295→∃y,cz (run M) (l.length+2) l0 (wJ l (num,a,acc) (v,x))=some (.normal,wJ l (num,(recAt l a).2.1,acc++[(recAt l a).1]) y))
  (hend:∀a acc v x,(recAt l (a:Nat)).2.2=false→∃y,cz (run M) (l.length+2) l0 (wJ l (num,a,acc) (v,x))=some (vj (acc,a) y)):
  ∃g:Nat×Nat→Nat×Nat,∀x,fx (cz (run M) (l.length+2) l0) (l.length+2) (wJ l (l.length+1,0,[]) x)=some (vj (kN l) (g x)):=by
 refine iN (f:=cz (run M) (l.length+2) l0) (wJ l) (K7 l) (fun s=>s.1) (fun s=>nT l s.1 s.2.1 s.2.2) vj ?_ (l.length+2) (l.length+1,0,[]) ⟨by simp,by simp,by simp⟩ (by simp);rintro ⟨d,a,acc⟩ ⟨v,x⟩ ⟨h1,h2,h3⟩;simp only at h1 h2 h3;cases d with
 |zero=>omega
 |succ d=>
  by_cases c:(recAt l a).2.2=true
  ·left;obtain⟨y,hy⟩:=hgo a acc v x c (by omega);have hle:=Av l a c;exact⟨(d,(recAt l a).2.1,acc++[(recAt l a).1]),y,hy,⟨hle.2,by simp only;omega,by simp;omega⟩,by simp,by simp only[nT,c,if_true]⟩
  ·right;obtain⟨y,hy⟩:=hend a acc v x (by simpa using c);exact⟨y,by simp only[nT,c];exact hy,by simp[vj]⟩
theorem cS.ak(h:cS.k M)(l:List UInt8)(hl:l.length≤1048576):run M 12 [.c (S l)] []=some (.lM [.c (.sl true 1 (l_ (kN l).1)),.c (I (kN l).2)],[]):=by
 refine au (b:=cS.m) h.1 ⟨l.length+2, ?_⟩;obtain⟨g,hr⟩:=CT (M:=M) 0 cS.l0 l hl
  (fun a acc v x c hc=>by
   have h1:=eC.ak h.2 l hl a;rw[c] at h1;have e:acc.length+1≤4294967296:=by omega
   simp only[aE];simp[wJ,cS.l0,h1,e,yy,ab])
  (fun a acc v x c=>by
   have h1:=eC.ak h.2 l hl a;rw[c] at h1;simp only[aE];simp[wJ,vj,cS.l0,h1])
 simp[wJ,vj] at hr;simp[ba,cS.m,cS.b,aa,hr,ab]
theorem cT.ak(h:cT.k M)(l:List UInt8)(hl:l.length≤1048576):run M 13 [.c (S l)] []=some (.lM [.c (.sl true 1 (l_ (kN l).1)),.c (I (kN l).2)],[]):=by
 refine au (b:=cT.m) h.1 ⟨l.length+2, ?_⟩;obtain⟨g,hr⟩:=CT (M:=M) 0 cT.l0 l hl
  (fun a acc v x c hc=>by
   have h1:=du.ak h.2 l hl a;rw[c] at h1;have e:acc.length+1≤4294967296:=by omega
   simp only[aE];simp[wJ,cT.l0,h1,e,yy,ab])
  (fun a acc v x c=>by
   have h1:=du.ak h.2 l hl a;rw[c] at h1;simp only[aE];simp[wJ,vj,cT.l0,h1])
 simp[wJ,vj] at hr;simp[ba,cT.m,cT.b,aa,hr,ab]
def Ld(k:Nat):List UInt8:=109::xG k []
def marks(k:Nat):Nat→List (List UInt8)
 |0=>[]
 |n+1=>marks k n++[Ld (k+n)]
theorem DV(k n:Nat):(marks k n).length=n:=by
 induction n with
 |zero=>rfl
 |succ n ih=>simp[marks,ih]
attribute [simp] DV
def Jy:C:= .seq (.ai [⟨some 4,.mv (.k (.int .i64 0)),none⟩] [0,1] [])
 (.seq (.ai [⟨some 5,.mv (.t 1),none⟩,
   ⟨some 6,.mv (.t 0),none⟩,
   ⟨some 7,.len (.t 6),none⟩,
   ⟨some 8,.bin .sub (.t 5) (.t 7),none⟩,
   ⟨some 1,.mv (.t 8),none⟩] [1] [])
 (.seq (.seq (.ai [⟨some 9,.mv (.t 1),none⟩,
   ⟨some 10,.bin .lss (.t 9) (.k (.int .i64 0)),none⟩] [1,10] [])
 (.cond (.t 10) (.seq (.ai [⟨some 4,.mv (.k (.int .i64 (-1))),none⟩] [4] [])
 (.ret)) (.skip)))
 (.seq (.ai [⟨some 11,.mv (.t 1),none⟩,
   ⟨some 4,.mv (.t 11),none⟩] [4] [])
 (.ret))))
def Hh:Fn:={np:=2,body:=Jy,res:=[.tmp 4]}
theorem E4{F n:Nat}(h:M F=some (.code Hh)){rows:List (List T)}(hl:rows.length≤9223372036854775807)(k:Int)(hk:0≤k)(hk':k≤9223372036854775807):
  run M F [.c (.sl false n rows),.c (I k)] []=some (.c (I (if k<rows.length then -1 else k-rows.length)),[]):=by
 refine au (b:=Hh) h ⟨0, ?_⟩;have e5:IntKind.i64.wrap (k-(rows.length:Int))=k-(rows.length:Int):=wrap_i64 (by omega) (by omega);by_cases hc:k<rows.length
 ·have h1:k-(rows.length:Int)<0:=by omega
  simp[ba,Hh,Jy,aa,e5,h1,hc]
 ·have h1:¬k-(rows.length:Int)<0:=by omega
  simp[ba,Hh,Jy,aa,e5,h1,hc]
theorem IE{n:Nat}{o:List (Nat×Ob)}{f:Nat}{r:List T}{k m:Int}(hr:r.all n6=true)(h:run M f [.a r,.c (I k)] []=some (.c (I m),[])):
  gh (run M) n o f [.a r,.c (I k)] [] []=some (.c (I m),[]):=by
 obtain⟨h1,h2,_⟩:=pt (o:=o) hr;simp[gh,args,uF,V.im,V.wr,h1,h2,h,lg,back,pQ,oP]
def BF(n f:Nat):C:= .seq (.seq (.ai [⟨some 12,.mv (.t 5),none⟩,
    ⟨some 13,.mv (.t 0),none⟩,
    ⟨some 14,.len (.t 13),none⟩,
    ⟨some 15,.bin .lss (.t 12) (.t 14),none⟩] [0,1,5,15] [])
 (.cond (.t 15) (.skip) (.exit 0)))
 (.seq (.block 1 (.seq (.ai [⟨some 18,.mv (.t 0),none⟩,
   ⟨some 19,.mv (.t 5),none⟩,
   ⟨some 20,.kG n (.t 18) (.t 19),none⟩,
   ⟨some 21,.load true n (.t 20),none⟩,
   ⟨some 22,.mv (.t 1),none⟩,
   ⟨some 23,.call f [.t 21,.t 22] [] [],none⟩,
   ⟨some 1,.mv (.t 23),none⟩] [0,1,5] [])
 (.seq (.ai [⟨some 24,.mv (.t 1),none⟩,
   ⟨some 25,.bin .lss (.t 24) (.k (.int .i64 0)),none⟩] [0,1,5,25] [])
 (.cond (.t 25) (.seq (.ai [⟨some 4,.mv (.k (.int .i64 (-1))),none⟩] [4] [])
 (.ret)) (.skip)))))
 (.ai [⟨some 16,.mv (.t 5),none⟩,
   ⟨some 17,.bin .add (.t 16) (.k (.int .i64 1)),none⟩,
   ⟨some 5,.mv (.t 17),none⟩] [0,1,5] []))
def Hg(n f:Nat):C:= .seq (.ai [⟨some 4,.mv (.k (.int .i64 0)),none⟩] [0,1] [])
 (.seq (.ai [⟨some 6,.mv (.t 1),none⟩,
   ⟨some 7,.mv (.t 0),none⟩,
   ⟨some 8,.len (.t 7),none⟩,
   ⟨some 9,.bin .sub (.t 6) (.t 8),none⟩,
   ⟨some 1,.mv (.t 9),none⟩] [0,1] [])
 (.seq (.seq (.ai [⟨some 10,.mv (.t 1),none⟩,
   ⟨some 11,.bin .lss (.t 10) (.k (.int .i64 0)),none⟩] [0,1,11] [])
 (.cond (.t 11) (.seq (.ai [⟨some 4,.mv (.k (.int .i64 (-1))),none⟩] [4] [])
 (.ret)) (.skip)))
 (.seq (.seq (.ai [⟨some 5,.mv (.k (.int .i64 0)),none⟩] [0,1,5] [])
 (.block 0 (.loop (BF n f))))
 (.seq (.ai [⟨some 26,.mv (.t 1),none⟩,
   ⟨some 4,.mv (.t 26),none⟩] [4] [])
 (.ret)))))
def E3(n f:Nat):Fn:={np:=2,body:=Hg n f,res:=[.tmp 4]}
def tw(n:Nat)(rows:List (List T))(s:Nat×Nat)(x:Nat):St:={t:=[(0,.c (.sl false n rows)),(1,.c (I s.2)),(5,.c (I s.1))],o:=[],n:=x}
def sR(k:Nat):List Nat→Option Nat
 |[]=>some k
 |w::ws=>if k<w then none else sR (k-w) ws
theorem AG:∀(ws:List Nat) (k:Nat),sR k ws=if k<ws.sum then none else some (k-ws.sum)
 |[],k=>by simp[sR]
 |w::ws,k=>by
  have hs:(w::ws).sum=w+ws.sum:=List.sum_cons;rw[sR,AG ws];by_cases h:k<w
  ·rw[if_pos h,if_pos (by rw[hs];omega)]
  ·rw[if_neg h];by_cases h2:k-w<ws.sum
   ·rw[if_pos h2,if_pos (by rw[hs];omega)]
   ·rw[if_neg h2,if_neg (by rw[hs];omega)];congr 1;rw[hs];omega
def u_(n:Nat)(rows:List (List T))(q:Option Nat)(m:Nat):Out×St:=match q with
 |none=>(.ret,{t:=[(4,.c (I (-1)))],o:=[],n:=m})
 |some k=>(.exit 0,{t:=[(0,.c (.sl false n rows)),(1,.c (I k)),(5,.c (I rows.length)),(15,.c (.bool false))],o:=[],n:=m})
theorem z_{F n f:Nat}(h:M F=some (.code (E3 n f))){rows:List (List T)}(hl:rows.length≤9223372036854775807)(wt:List T→Nat)
  (he:∀r∈rows,r.length=n∧r.all n6=true∧∀k:Nat,k≤1048576→run M f [.a r,.c (I k)] []=some (.c (I (if k<wt r then -1 else(k:Int)-wt r)),[])) (k:Nat) (hk:k≤1048576):
  run M F [.c (.sl false n rows),.c (I k)] []=some (.c (I (if k<rows.length+(rows.map wt).sum then -1 else(k:Int)-(rows.length+(rows.map wt).sum:Nat))),[]):=by
 refine au (b:=E3 n f) h ⟨rows.length+1, ?_⟩;have e0:IntKind.i64.wrap ((k:Int)-(rows.length:Int))=(k:Int)-(rows.length:Int):=wrap_i64 (by omega) (by omega);by_cases hc:k<rows.length
 ·have h1:(k:Int)-(rows.length:Int)<0:=by omega
  have h2:k<rows.length+(rows.map wt).sum:=by omega
  rw[if_pos h2];simp[ba,E3,Hg,aa,e0,h1]
 have h1:¬(k:Int)-(rows.length:Int)<0:=by omega
 obtain⟨g,hr⟩:=iN (f:=cz (run M) (rows.length+1) (BF n f)) (tw n rows) (fun s=>s.1≤rows.length∧s.2≤1048576) (fun s=>rows.length-s.1) (fun s=>sR s.2 ((rows.drop s.1).map wt)) (u_ n rows)
  (by
   rintro ⟨i,q⟩ x ⟨p1,p2⟩;simp only at p1 p2;by_cases hlt:i<rows.length
   ·have e5:IntKind.i64.wrap ((i:Int)+1)=(i:Int)+1:=wrap_i64 (by omega) (by omega);obtain⟨k1,k2,k3⟩:=he rows[i] (ax hlt);have hcall:=fun nn=>IE (n:=nn) (o:=[]) k2 (k3 q p2)
    have h6:(List.take n rows[i])=rows[i]:=ab (by omega);have hd:sR q ((rows.drop i).map wt)=if q<wt rows[i] then none else sR (q-wt rows[i]) ((rows.drop (i+1)).map wt):=by
     rw[bA hlt,bu,sR]
    simp only[hd];by_cases c:q<wt rows[i]
    ·right;have c':(q:Int)<wt rows[i]:=by omega
     simp only[if_pos c] at hcall;rw[if_pos c];obtain⟨y,hy⟩:∃y,cz (run M) (rows.length+1) (BF n f) (tw n rows (i,q) x)=some (u_ n rows none y):=by
      simp[tw,BF,u_,hlt,k1,hcall,h6,-gh]
     exact⟨y,hy,by simp[u_]⟩
    ·left;simp only[if_neg c] at hcall;rw[if_neg c];have c2:¬(q:Int)-wt rows[i]<0:=by omega
     have c3:(q:Int)-wt rows[i]=((q-wt rows[i]:Nat):Int):=by omega
     rw[c3] at hcall c2;obtain⟨y,hy⟩:∃y,cz (run M) (rows.length+1) (BF n f) (tw n rows (i,q) x)=some (.normal,tw n rows (i+1,q-wt rows[i]) y):=by
      simp[tw,BF,hlt,e5,k1,hcall,h6,c2,-gh]
     exact⟨(i+1,q-wt rows[i]),y,hy,⟨hlt,by simp only;omega⟩,by simp only;omega,rfl⟩
   ·have:i=rows.length:=by omega
    subst this;right;exact⟨x+64,by simp[tw,BF,u_,sR],by simp[u_,sR]⟩)
  (rows.length+1) (0,k-rows.length) ⟨Nat.zero_le _,by simp only;omega⟩ (by simp)
 simp only[List.drop_zero,AG] at hr;have h3:(k:Int)-(rows.length:Int)=((k-rows.length:Nat):Int):=by omega
 rw[h3] at e0 h1;have e0':IntKind.i64.wrap ((k:Int)-(rows.length:Int))=((k-rows.length:Nat):Int):=by rw[h3];exact e0
 by_cases c:k<rows.length+(rows.map wt).sum
 ·rw[if_pos (show k-rows.length<(rows.map wt).sum by omega)] at hr;rw[if_pos c];simp[tw,u_] at hr;simp[ba,E3,Hg,aa,e0',hr,h1]
 ·rw[if_neg (show ¬k-rows.length<(rows.map wt).sum by omega)] at hr;rw[if_neg c];simp[tw,u_] at hr;have h4:((k-rows.length-(rows.map wt).sum:Nat):Int)=(k:Int)-(rows.length+(rows.map wt).sum:Nat):=by omega
  simp[ba,E3,Hg,aa,e0',hr,h1];omega
structure mJ where
 val:Int
 time:Int
 eJ:Int
structure bj where
 gid:Int
 uid:Int
 flags:List mJ
 text:List UInt8
structure bq where
 gid:Int
 name:List UInt8
 time:Int
 eJ:Int
 next:Int
 ae:List bj
 gone:List Int
abbrev aO(r:mJ):List T:=[I r.val,I r.time,I r.eJ]
abbrev jf(l:List mJ):T:= .sl false 3 (l.map aO)
abbrev ah(m:bj):List T:=[I m.gid,I m.uid,jf m.flags,S m.text]
abbrev ae(l:List bj):T:= .sl false 4 (l.map ah)
abbrev af(b:bq):List T:=[I b.gid,S b.name,I b.time,I b.eJ,I b.next,ae b.ae,ints b.gone]
abbrev iC(m:bj):List T:=[I m.gid,I m.uid,.sl true 3 (m.flags.map aO),S m.text]
abbrev b7(b:bq):List T:=[I b.gid,S b.name,I b.time,I b.eJ,I b.next,.sl true 4 (b.ae.map ah),.sl true 1 (aA b.gone)]
abbrev Jm:List Ct:=[.int .i64,.int .i64,.int .i64]
abbrev Gj:List Ct:=[.int .i64,.int .i64,.sl Jm,.str]
abbrev Jn:List Ct:=[.int .i64,.str,.int .i64,.int .i64,.int .i64,.sl Gj,.sl [.int .i64]]
theorem rN{α:Type}{row:List Ct}(enc:α→List T)(Q:α→Prop)(hx:∀r,rA row r→∃x,r=enc x∧Q x){u:T}(h:Has (.sl row) u):
  ∃l:List α,u= .sl false row.length (l.map enc)∧l.length≤maxLen∧∀x∈l,Q x:=by
 cases h with|sl _ rows hl h1 h2=>
 have:∀rows:List (List T),(∀r∈rows,rA row r)→∃l:List α,rows=l.map enc∧∀x∈l,Q x:=by
  intro rows
  induction rows with
  |nil=>intro _;exact⟨[],rfl,fun x h=>by cases h⟩
  |cons r rs ih=>
   intro hr;obtain⟨l,rfl,hq⟩:=ih fun r h=>hr r (bo _ h)
   obtain⟨x,rfl,hqx⟩:=hx r (hr r (bl ..));exact⟨x::l,rfl,fun y hy=>by
    rcases List.mem_cons.1 hy with rfl|hy
    ·exact hqx
    ·exact hq y hy⟩
 obtain⟨l,rfl,hq⟩:=this rows fun r hr=>by
  obtain⟨i,hi⟩:=List.getElem?_of_mem hr;exact⟨h1 i r hi,fun j c t e1 e2=>h2 i j r c t hi e1 e2⟩
 exact⟨l,rfl,by simpa using hl,hq⟩
theorem mF{k:IntKind}{u:T}(h:Has (.int k) u):∃n,u= .int k n:=by cases h;exact⟨_,rfl⟩
theorem C9{u:T}(h:Has .str u):∃l:List UInt8,u=S l∧l.length≤maxLen:=by
 cases h with|str s hs=>
 obtain⟨l,rfl⟩:=Az s;exact⟨l,rfl,by simpa using hs⟩
theorem Im{r:List T}(h:rA Jm r):∃x:mJ,r=aO x∧True:=by
 match r,h with
 |[a,b,c],h=>
  obtain⟨x,rfl⟩:=mF (h.2 0 _ a rfl rfl);obtain⟨y,rfl⟩:=mF (h.2 1 _ b rfl rfl);obtain⟨z,rfl⟩:=mF (h.2 2 _ c rfl rfl);exact⟨⟨x,y,z⟩,rfl,trivial⟩
def r9(m:bj):Prop:=m.flags.length≤maxLen∧m.text.length≤maxLen
theorem FU{r:List T}(h:rA Gj r):∃x:bj,r=ah x∧r9 x:=by
 match r,h with
 |[a,b,c,d],h=>
  obtain⟨x,rfl⟩:=mF (h.2 0 _ a rfl rfl);obtain⟨y,rfl⟩:=mF (h.2 1 _ b rfl rfl);obtain⟨l,rfl,hl,_⟩:=rN aO (fun _=>True) (fun r hr=>Im hr) (h.2 2 _ c rfl rfl);obtain⟨t,rfl,ht⟩:=C9 (h.2 3 _ d rfl rfl);exact⟨⟨x,y,l,t⟩,rfl,hl,ht⟩
def um(b:bq):Prop:=b.name.length≤maxLen∧b.ae.length≤maxLen∧b.gone.length≤maxLen∧∀m∈b.ae,r9 m
theorem Io{r:List T}(h:rA Jn r):∃x:bq,r=af x∧um x:=by
 match r,h with
 |[a,b,c,d,e,f,g],h=>
  obtain⟨x1,rfl⟩:=mF (h.2 0 _ a rfl rfl);obtain⟨x2,rfl,h2⟩:=C9 (h.2 1 _ b rfl rfl);obtain⟨x3,rfl⟩:=mF (h.2 2 _ c rfl rfl);obtain⟨x4,rfl⟩:=mF (h.2 3 _ d rfl rfl);obtain⟨x5,rfl⟩:=mF (h.2 4 _ e rfl rfl);obtain⟨x6,rfl,h6,q6⟩:=rN ah r9 (fun r hr=>FU hr) (h.2 5 _ f rfl rfl);obtain⟨x7,rfl,h7,_⟩:=rN (fun n:Int=>[I n]) (fun _=>True) (fun r hr=>by
   match r,hr with
   |[a],hr=>obtain⟨n,rfl⟩:=mF (hr.2 0 _ a rfl rfl);exact⟨n,rfl,trivial⟩) (h.2 6 _ g rfl rfl)
  exact⟨⟨x1,x2,x3,x4,x5,x6,x7⟩,rfl,h2,h6,h7,q6⟩
def pe(m:bj):Nat:=m.flags.length+m.text.length
def mK(l:List bj):Nat:=l.length+(l.map pe).sum
def n_(b:bq):Nat:=b.name.length+mK b.ae+b.gone.length
theorem B4{α:Type}(f:α→Nat):∀(l:List α) (x:α),x∈l→f x≤(l.map f).sum
 |y::l,x,h=>by
  have hs:((y::l).map f).sum=f y+(l.map f).sum:=List.sum_cons;rcases List.mem_cons.1 h with rfl|h
  ·omega
  ·have:=B4 f l x h;omega
theorem wo{l:List bj}{m:bj}(h:m∈l):pe m≤mK l:=by
 have:=B4 pe l m h;unfold mK;omega
theorem kE.ak(h:kE.k M)(l:List mJ)(hl:l.length≤maxLen)(k:Nat)(hk:k≤1048576):run M 250 [.c (jf l),.c (I k)] []=some (.c (I (if k<l.length then -1 else(k:Int)-l.length)),[]):=by
 have hm:maxLen=9223372036854775807:=rfl;have:=E4 (M:=M) (F:=250) (n:=3) h (rows:=l.map aO) (by simp;omega) k (by omega) (by omega);simpa using this
theorem gM.ak(h:gM.k M)(m:bj)(hm:r9 m)(k:Nat)(hk:k≤1048576):run M 208 [.a (ah m),.c (I k)] []=some (.c (I (if k<pe m then -1 else(k:Int)-pe m)),[]):=by
 have hx:maxLen=9223372036854775807:=rfl;obtain⟨f1,f2⟩:=hm;have h1:=kE.ak h.2 m.flags f1 k hk;refine au (b:=gM.m) h.1 ⟨0, ?_⟩;unfold pe;by_cases c1:k<m.flags.length
 ·rw[if_pos c1] at h1;rw[if_pos (show k<m.flags.length+m.text.length by omega)];simp[ba,gM.m,gM.b,aa,h1]
 ·rw[if_neg c1] at h1;have e1:¬(k:Int)-m.flags.length<0:=by omega
  have e2:IntKind.i64.wrap ((k:Int)-m.flags.length-m.text.length)=(k:Int)-m.flags.length-m.text.length:=wrap_i64 (by omega) (by omega);by_cases c2:k<m.flags.length+m.text.length
  ·have e3:(k:Int)-m.flags.length-m.text.length<0:=by omega
   rw[if_pos c2];simp[ba,gM.m,gM.b,aa,h1,e1,e2,e3]
  ·have e3:¬(k:Int)-m.flags.length-m.text.length<0:=by omega
   rw[if_neg c2];have e4:(k:Int)-(m.flags.length+m.text.length:Nat)=(k:Int)-m.flags.length-m.text.length:=by omega
   rw[e4];simp[ba,gM.m,gM.b,aa,h1,e1,e2,e3]
def By:List T→Nat
 |[_,_,.sl _ _ rows,.str s]=>rows.length+s.size
 |_=>0
theorem uu(m:bj):By (ah m)=pe m:=by simp[By,pe]
theorem jh.ak(h:jh.k M)(l:List bj)(hl:l.length≤maxLen)(hm:∀m∈l,r9 m)(k:Nat)(hk:k≤1048576):
  run M 107 [.c (ae l),.c (I k)] []=some (.c (I (if k<mK l then -1 else(k:Int)-mK l)),[]):=by
 have hx:maxLen=9223372036854775807:=rfl;have:=z_ (M:=M) (F:=107) (n:=4) (f:=208) h.1 (rows:=l.map ah) (by simp;omega) By (by
  intro r hr;obtain⟨m,hmm,rfl⟩:=List.mem_map.1 hr;refine⟨rfl,rfl,fun k hk=> ?_⟩;rw[uu];exact gM.ak h.2 m (hm m hmm) k hk) k hk
 have e:((l.map ah).map By).sum=(l.map pe).sum:=by
  rw[List.map_map];congr 1;apply List.map_congr_left;intro m _;exact uu m
 rw[e,eM] at this;exact this
theorem ie.ak(h:ie.k M)(b:bq)(hb:um b)(k:Nat)(hk:k≤1048576):run M 17 [.a (af b),.c (I k)] []=some (.c (I (if k<n_ b then -1 else(k:Int)-n_ b)),[]):=by
 have hx:maxLen=9223372036854775807:=rfl;obtain⟨f1,f2,f3,f4⟩:=hb;obtain⟨h0,k1,k2⟩:=h;refine au (b:=ie.m) h0 ⟨0, ?_⟩;have e1:IntKind.i64.wrap ((k:Int)-b.name.length)=(k:Int)-b.name.length:=wrap_i64 (by omega) (by omega);by_cases c1:k<b.name.length
 ·have d1:(k:Int)-b.name.length<0:=by omega
  rw[if_pos (show k<n_ b by unfold n_;omega)];simp[ba,ie.m,ie.b,aa,e1,d1]
 have d1:¬(k:Int)-b.name.length<0:=by omega
 have h1:=jh.ak k1 b.ae f2 f4 (k-b.name.length) (by omega);rw[show ((k-b.name.length:Nat):Int)=(k:Int)-b.name.length by omega] at h1;by_cases c2:k-b.name.length<mK b.ae
 ·rw[if_pos c2] at h1;rw[if_pos (show k<n_ b by unfold n_;omega)];simp[ba,ie.m,ie.b,aa,e1,d1,h1]
 rw[if_neg c2] at h1;have d2:¬(k:Int)-b.name.length-mK b.ae<0:=by omega
 have h2:=gP.ak k2 b.gone (by omega) ((k:Int)-b.name.length-mK b.ae) (by omega) (by omega);by_cases c3:(k:Int)-b.name.length-mK b.ae<b.gone.length
 ·rw[if_pos c3] at h2;rw[if_pos (show k<n_ b by unfold n_;omega)];simp[ba,ie.m,ie.b,aa,e1,d1,d2,h1,h2]
 ·rw[if_neg c3] at h2;have d3:¬(k:Int)-b.name.length-mK b.ae-b.gone.length<0:=by omega
  rw[if_neg (show ¬k<n_ b by unfold n_;omega)];have e4:(k:Int)-(n_ b:Nat)=(k:Int)-b.name.length-mK b.ae-b.gone.length:=by unfold n_;omega
  rw[e4];simp[ba,ie.m,ie.b,aa,e1,d1,d2,d3,h1,h2]
theorem gW.ak(h:gW.k M)(a b:Int):run M 109 [.a [I a,I b]] []=some (.a [I a,I b],[]):=by
 refine au (b:=gW.m) h ⟨0, ?_⟩;simp[ba,gW.m,gW.b,aa]
theorem jZ.ak(h:jZ.k M)(r:mJ):run M 288 [.a (aO r)] []=some (.a (aO r),[]):=by
 have h1:=gW.ak h.2 r.time r.eJ;refine au (b:=jZ.m) h.1 ⟨0, ?_⟩;simp[ba,jZ.m,jZ.b,aa,h1]
theorem jM.ak(h:jM.k M)(l:List mJ)(hl:l.length≤1048576):run M 251 [.c (jf l)] []=some (.c (.sl true 3 (l.map aO)),[]):=by
 refine wx (M:=M) (F:=251) (n:=3) (by':=24) (z:=[.int .i64 0,.int .i64 0,.int .i64 0]) (f:=288) h.1 rfl (by simpa using hl) (by omega) (fun r hr=> ?_);obtain⟨x,_,rfl⟩:=List.mem_map.1 hr;exact⟨rfl,rfl,_,jZ.ak h.2 x,rfl,rfl⟩
theorem jx.ak(h:jx.k M)(m:bj)(hm:pe m≤1048576):run M 209 [.a (ah m)] []=some (.a (iC m),[]):=by
 have h1:=jM.ak h.2 m.flags (by unfold pe at hm;omega);refine au (b:=jx.m) h.1 ⟨0, ?_⟩;simp[ba,jx.m,jx.b,aa,h1,setAt,ab]
theorem jg.ak(h:jg.k M)(l:List bj)(hl:mK l≤1048576):run M 110 [.c (ae l)] []=some (.c (.sl true 4 (l.map ah)),[]):=by
 refine wx (M:=M) (F:=110) (n:=4) (by':=56) (z:=[.int .i64 0,.int .i64 0,.aL 3,.str ⟨#[]⟩]) (f:=209) h.1 rfl (by simp;unfold mK at hl;omega) (by omega) (fun r hr=> ?_);obtain⟨x,hx,rfl⟩:=List.mem_map.1 hr;exact⟨rfl,rfl,_,jx.ak h.2 x (Nat.le_trans (wo hx) hl),rfl,rfl⟩
theorem j0.ak(h:j0.k M)(b:bq)(hb:n_ b≤1048576):run M 18 [.a (af b)] []=some (.a (b7 b),[]):=by
 obtain⟨h0,k1,k2,k3⟩:=h;have h1:=i_.ak k1 b.gone (by unfold n_ at hb;omega);have h2:=gW.ak k2 b.time b.eJ;have h3:=jg.ak k3 b.ae (by unfold n_ at hb;omega);refine au (b:=j0.m) h0 ⟨0, ?_⟩;simp[ba,j0.m,j0.b,aa,h1,h2,h3,setAt,ab]
theorem gX.ak(h:gX.k M)(a b:Int):run M 111 [.a [I a,I b],.a [I a,I b]] []=some (.c (.bool true),[]):=by
 refine au (b:=gX.m) h ⟨0, ?_⟩;simp[ba,gX.m,gX.b,aa]
theorem j1.ak(h:j1.k M)(r:mJ):run M 289 [.a (aO r),.a (aO r)] []=some (.c (.bool true),[]):=by
 have h1:=gX.ak h.2 r.time r.eJ;refine au (b:=j1.m) h.1 ⟨0, ?_⟩;simp[ba,j1.m,j1.b,aa,h1]
theorem jP.ak(h:jP.k M)(l:List mJ)(hl:l.length≤1048576):run M 252 [.c (jf l),.c (jf l)] []=some (.c (.bool true),[]):=by
 refine xz (M:=M) (F:=252) (n:=3) (f:=289) h.1 (by simp;omega) (fun r hr=> ?_);obtain⟨x,_,rfl⟩:=List.mem_map.1 hr;exact⟨rfl,rfl,j1.ak h.2 x⟩
theorem jz.ak(h:jz.k M)(m:bj)(hm:pe m≤1048576):run M 210 [.a (ah m),.a (ah m)] []=some (.c (.bool true),[]):=by
 have h1:=jP.ak h.2 m.flags (by unfold pe at hm;omega);refine au (b:=jz.m) h.1 ⟨0, ?_⟩;simp[ba,jz.m,jz.b,aa,h1]
theorem ji.ak(h:ji.k M)(l:List bj)(hl:mK l≤1048576):run M 112 [.c (ae l),.c (ae l)] []=some (.c (.bool true),[]):=by
 refine xz (M:=M) (F:=112) (n:=4) (f:=210) h.1 (by simp;unfold mK at hl;omega) (fun r hr=> ?_);obtain⟨x,hx,rfl⟩:=List.mem_map.1 hr;exact⟨rfl,rfl,jz.ak h.2 x (Nat.le_trans (wo hx) hl)⟩
theorem j2.ak(h:j2.k M)(b:bq)(hb:n_ b≤1048576):run M 21 [.a (af b),.a (af b)] []=some (.c (.bool true),[]):=by
 obtain⟨h0,k1,k2,k3⟩:=h;have h1:=fN.ak k1 b.gone (by unfold n_ at hb;omega);have h2:=gX.ak k2 b.time b.eJ;have h3:=ji.ak k3 b.ae (by unfold n_ at hb;omega);refine au (b:=j2.m) h0 ⟨0, ?_⟩;simp[ba,j2.m,j2.b,aa,h1,h2,h3]
def Cs(l:List bj)(g:Int):Nat→Nat→Option Nat
 |0,_=>none
 |d+1,i=>if h:i<l.length then(if l[i].gid=g then some i else Cs l g d (i+1)) else none
def fX(l:List bj)(g:Int):Option Nat:=Cs l g l.length 0
def dA:Option Nat→Int
 |some i=>i
 |none=> -1
theorem uV(l:List bj)(g:Int):∀d i k,Cs l g d i=some k→k<l.length
 |0,i,k,h=>by simp[Cs] at h
 |d+1,i,k,h=>by
  rw[Cs] at h;by_cases hl:i<l.length
  ·rw[dif_pos hl] at h;split at h
   ·cases h;exact hl
   ·exact uV l g d (i+1) k h
  ·rw[dif_neg hl] at h;cases h
def j6(q:Option Nat)(m:St):Out×St:=match q with
 |some i=>(.ret,{t:=[(4,.c (I i))],o:=[],n:=m.n})
 |none=>(.exit 0,m)
theorem pE(q:Option Nat)(m:St):(j6 q m).1≠.normal:=by cases q<;>simp[j6]
theorem Dm{f:St→Option (Out×St)}{β:Type}(l:List bj)(g:Int)(S:Nat→β→St)
  (h1:∀i (h:i<l.length) x,l[i].gid=g→∃m,f (S i x)=some (j6 (some i) m)) (h2:∀i (h:i<l.length) x,¬l[i].gid=g→∃y,f (S i x)=some (.normal,S (i+1) y))
  (h3:∀x,∃m,f (S l.length x)=some (j6 none m)):∃g':β→St,∀x,fx f (l.length+1) (S 0 x)=some (j6 (fX l g) (g' x)):=by
 refine iN (f:=f) S (fun i=>i≤l.length) (fun i=>l.length-i) (fun i=>Cs l g (l.length-i) i) j6 ?_ (l.length+1) 0 (Nat.zero_le _) (by omega);intro i x hi;by_cases hlt:i<l.length
 ·have hd:l.length-i=(l.length-(i+1))+1:=by omega
  have hg:Cs l g (l.length-i) i=if l[i].gid=g then some i else Cs l g (l.length-(i+1)) (i+1):=by rw[hd,Cs,dif_pos hlt]
  simp only[hg];by_cases c:l[i].gid=g
  ·right;obtain⟨m,hm⟩:=h1 i hlt x c;rw[if_pos c];exact⟨m,hm,pE _ _⟩
  ·left;obtain⟨y,hy⟩:=h2 i hlt x c;rw[if_neg c];exact⟨i+1,y,hy,hlt,by omega,rfl⟩
 ·have:i=l.length:=by omega
  subst this;right;obtain⟨m,hm⟩:=h3 x;simp only[Nat.sub_self,Cs];exact⟨m,hm,pE _ _⟩
def yA(b:bq)(g:Int)(i:Nat)(x:Nat×Nat):St:={t:=[(1,.c (I g)),(2,.c (.ptr 2 x.1 0 0)),(5,.c (I i))],o:=[(2,⟨x.1,7,true,true,[af b]⟩)],n:=x.2}
theorem bI.ak(h:bI.k M)(b:bq)(g:Int)(hb:b.ae.length≤1048576):run M 91 [.a (af b),.c (I g)] []=some (.c (I (dA (fX b.ae g))),[]):=by
 refine au (b:=bI.m) h ⟨b.ae.length+1, ?_⟩;obtain⟨g',hr⟩:=Dm (f:=cz (run M) (b.ae.length+1) bI.l0) b.ae g (yA b g)
  (fun i hi x c=>by
   obtain⟨v,x⟩:=x;simp[yA,bI.l0,hi,c,ah,j6];exact⟨⟨[],[],_⟩,rfl⟩)
  (fun i hi x c=>by
   obtain⟨v,x⟩:=x;have e5:=cA (i:=i) (by omega);simp only[aE];simp[yA,bI.l0,hi,c,ah,e5])
  (fun x=>by
   obtain⟨v,x⟩:=x;simp[yA,bI.l0,j6])
 cases hm:fX b.ae g with
 |none=>
  simp[yA,hm,j6] at hr;simp[ba,bI.m,bI.b,aa,hr,dA]
 |some k=>
  simp[yA,hm,j6] at hr;simp[ba,bI.m,bI.b,aa,hr,dA]
theorem gw.ak(h:gw.k M)(m:bj)(g:Int):run M 160 [.a (ah m),.c (.vp [I g] 0)] []=some (.c (.bool (decide (m.gid=g))),[]):=by
 refine au (b:=gw.m) h ⟨0, ?_⟩;simp[ba,gw.m,gw.b,aa]
def KN(l:List bj)(g:Int)(i:Nat)(x:Nat):St:={t:=[(0,.c (ae l)),(1,.c (.fn 160 [.vp [I g] 0])),(7,.c (I l.length)),(8,.c (I i))],o:=[],n:=x}
theorem az.ak(h:az.k M)(h2:gw.k M)(l:List bj)(g:Int)(hl:l.length≤1048576):
  run M 161 [.c (ae l),.c (.fn 160 [.vp [I g] 0])] []=some (.c (I (dA (fX l g))),[]):=by
 refine au (b:=az.m) h ⟨l.length+1, ?_⟩;obtain⟨g',hr⟩:=Dm (f:=cz (run M) (l.length+1) az.l0) l g (KN l g)
  (fun i hi x c=>by
   have hm:=gw.ak h2 l[i] g;rw[decide_eq_true c] at hm;simp[KN,az.l0,hi,hm,ah,j6];exact⟨⟨[],[],_⟩,rfl⟩)
  (fun i hi x c=>by
   have hm:=gw.ak h2 l[i] g;rw[decide_eq_false c] at hm;have e5:=cA (i:=i) (by omega);simp[KN,az.l0,hi,hm,ah,e5])
  (fun x=>by simp[KN,az.l0,j6])
 cases hm:fX l g with
 |none=>
  simp[KN,hm,j6] at hr;simp[ba,az.m,az.b,aa,hr,dA]
 |some k=>
  simp[KN,hm,j6] at hr;simp[ba,az.m,az.b,aa,hr,dA]
theorem cy.ak(h:cy.k M)(b:bq)(g:Int)(hb:b.ae.length≤1048576):run M 72 [.a (af b),.c (I g)] []=some (.c (I (dA (fX b.ae g))),[]):=by
 have h1:=az.ak h.2.2 h.2.1 b.ae g hb;refine au (b:=cy.m) h.1 ⟨0, ?_⟩;simp[ba,cy.m,cy.b,aa,h1]
def holds(b:bq)(g:Int):Bool:=decide (0≤dA (fX b.ae g))
theorem jd.ak(h:jd.k M)(b:bq)(g:Int)(hb:b.ae.length≤1048576):run M 20 [.a (af b),.c (I g)] []=some (.c (.bool (holds b g)),[]):=by
 have h1:=cy.ak h.2 b g hb;refine au (b:=jd.m) h.1 ⟨0, ?_⟩;simp[ba,jd.m,jd.b,aa,h1,holds,ab]
end Mx
namespace Mx
open Go
def nW(p:Nat→Bool):Nat→Nat→Option Nat
 |0,_=>none
 |d+1,i=>if p i=true then some i else nW p d (i+1)
def dV(p:Nat→Bool)(n:Nat):Option Nat:=nW p n 0
theorem vG(p:Nat→Bool):∀d i,nW p d i=none→∀j,i≤j→j<i+d→p j=false
 |0,i,_,j,h1,h2=>by omega
 |d+1,i,h,j,h1,h2=>by
  rw[nW] at h;split at h
  ·cases h
  ·by_cases e:j=i
   ·subst e;simpa using ‹¬p j=true›
   ·exact vG p d (i+1) h j (by omega) (by omega)
theorem vF(p:Nat→Bool):∀d i k,nW p d i=some k→i≤k∧k<i+d∧p k=true∧∀j,i≤j→j<k→p j=false
 |d+1,i,k,h=>by
  rw[nW] at h;split at h
  ·cases h;exact⟨by omega,by omega,‹_›,fun j h1 h2=>by omega⟩
  ·obtain⟨h1,h2,h3,h4⟩:=vF p d (i+1) k h;refine⟨by omega,by omega,h3,fun j h5 h6=> ?_⟩;by_cases e:j=i
   ·subst e;simpa using ‹¬p j=true›
   ·exact h4 j (by omega) h6
theorem lZ{p:Nat→Bool}{n:Nat}(h:dV p n=none):∀j,j<n→p j=false:=fun j hj=>vG p n 0 h j (by omega) (by omega)
theorem lY{p:Nat→Bool}{n k:Nat}(h:dV p n=some k):k<n∧p k=true∧∀j,j<k→p j=false:=by
 obtain⟨_,h2,h3,h4⟩:=vF p n 0 k h;exact⟨by omega,h3,fun j hj=>h4 j (by omega) hj⟩
theorem jE{p:Nat→Bool}{n:Nat}:dV p n=none↔∀j,j<n→p j=false:=by
 refine⟨lZ,fun h=> ?_⟩;cases q:dV p n with
 |none=>rfl
 |some k=>
  obtain⟨h1,h2,_⟩:=lY q;rw[h k h1] at h2;cases h2
theorem mU{γ β:Type}(n:Nat)(p:Nat→Bool){f:St→Option (Out×St)}(S:Nat→β→St)(fin:Option Nat→γ→Out×St)(hfin:∀q m,(fin q m).1≠.normal)
  (h1:∀i,i<n→∀x,p i=false→∃y,f (S i x)=some (.normal,S (i+1) y)) (h2:∀i,i<n→∀x,p i=true→∃m,f (S i x)=some (fin (some i) m))
  (h3:∀x,∃m,f (S n x)=some (fin none m)):∃g:β→γ,∀x,fx f (n+1) (S 0 x)=some (fin (dV p n) (g x)):=by
 refine iN (f:=f) S (fun i=>i≤n) (fun i=>n-i) (fun i=>nW p (n-i) i) fin ?_ (n+1) 0 (Nat.zero_le _) (by omega);intro i x hi;by_cases hlt:i<n
 ·have hd:n-i=(n-(i+1))+1:=by omega
  have hg:nW p (n-i) i=if p i=true then some i else nW p (n-(i+1)) (i+1):=by rw[hd,nW]
  simp only[hg];by_cases c:p i=true
  ·right;obtain⟨m,hm⟩:=h2 i hlt x c;rw[if_pos c];exact⟨m,hm,hfin _ _⟩
  ·left;obtain⟨y,hy⟩:=h1 i hlt x (by simpa using c);rw[if_neg c];exact⟨i+1,y,hy,hlt,by omega,rfl⟩
 ·have:i=n:=by omega
  subst this;right;obtain⟨m,hm⟩:=h3 x;simp only[Nat.sub_self,nW];exact⟨m,hm,hfin _ _⟩
theorem gz{f:St→Option (Out×St)}{n m:Nat}{s:St}{r:Out×St}(h:fx f n s=some r)(hm:n≤m):fx f m s=some r:=qM (fun _ _ h=>h) hm h
def lv{β:Type}(r:Nat)(w:T)(e:Nat)(E:β→St)(q:Option Nat)(m:β×Nat):Out×St:=match q with
 |none=>(.exit e,E m.1)
 |some _=>(.ret,{t:=[(r,.c w)],o:=[],n:=m.2})
theorem iz{β:Type}(n:Nat)(p:Nat→Bool){f:St→Option (Out×St)}(S:Nat→β→St)(r:Nat)(w:T)(e:Nat)(E:β→St)
  (h1:∀i,i<n→∀x,p i=false→∃y,f (S i x)=some (.normal,S (i+1) y)) (h2:∀i,i<n→∀x,p i=true→∃k,f (S i x)=some (.ret,{t:=[(r,.c w)],o:=[],n:=k}))
  (h3:∀x,∃y,f (S n x)=some (.exit e,E y)):∃g:β→β×Nat,∀x,fx f (n+1) (S 0 x)=some (lv r w e E (dV p n) (g x)):=
 mU n p S (lv r w e E) (fun q m=>by cases q<;>simp[lv]) h1 (fun i hi x c=>by
  obtain⟨k,hk⟩:=h2 i hi x c;exact⟨(x,k),hk⟩) (fun x=>by
  obtain⟨y,hy⟩:=h3 x;exact⟨(y,0),hy⟩)
theorem jB{α σ β γ:Type}(l:List α)(step:σ→α→σ)(Inv:Nat→σ→Prop){f:St→Option (Out×St)}(S:Nat→σ→β→St)(e:Nat)(E:σ→γ→St)
  (hI:∀i (h:i<l.length) s,Inv i s→Inv (i+1) (step s l[i]))
  (h1:∀i (h:i<l.length) s x,Inv i s→∃y,f (S i s x)=some (.normal,S (i+1) (step s l[i]) y))
  (h3:∀s x,Inv l.length s→∃y,f (S l.length s x)=some (.exit e,E s y)) (s:σ) (h0:Inv 0 s):
  ∃g:β→γ,∀x,fx f (l.length+1) (S 0 s x)=some (.exit e,E (l.foldl step s) (g x)):=by
 refine iN (f:=f) (fun p:Nat×σ=>S p.1 p.2) (fun p=>p.1≤l.length∧Inv p.1 p.2) (fun p=>l.length-p.1) (fun p=>(l.drop p.1).foldl step p.2) (fun q m=>(.exit e,E q m)) ?_ (l.length+1) (0,s) ⟨Nat.zero_le _,h0⟩ (by simp);rintro ⟨i,s⟩ x ⟨hi,hs⟩;simp only at hi hs;by_cases hlt:i<l.length
 ·left;obtain⟨y,hy⟩:=h1 i hlt s x hs;refine⟨(i+1,step s l[i]),y,hy,⟨hlt,hI i hlt s hs⟩,by simp only;omega, ?_⟩;simp only;rw[bA hlt,eN]
 ·have:i=l.length:=by omega
  subst this;right;obtain⟨y,hy⟩:=h3 s x hs;exact⟨y,by simp[hy],by simp⟩
theorem uL{α σ:Type}(l:List α)(step:σ→α→σ)(Inv:Nat→σ→Prop)(hI:∀i (h:i<l.length) s,Inv i s→Inv (i+1) (step s l[i])):∀s,Inv 0 s→Inv l.length (l.foldl step s):=by
 have key:∀d i s,i+d=l.length→Inv i s→Inv l.length ((l.drop i).foldl step s):=by
  intro d
  induction d with
  |zero=>intro i s hi h;have:i=l.length:=by omega
         subst this;simpa using h
  |succ d ih=>
   intro i s hi h;have hlt:i<l.length:=by omega
   rw[bA hlt,eN];exact ih (i+1) _ (by omega) (hI i hlt s h)
 intro s h;simpa using key l.length 0 s (by omega) h
def texts{α:Type}(t:α→List UInt8)(l:List α):List UInt8:=l.flatMap t
theorem BC{α:Type}(t:α→List UInt8)(l:List α)(s:List UInt8):l.foldl (fun s x=>s++t x) s=s++texts t l:=by
 induction l generalizing s with
 |nil=>simp[texts]
 |cons x l ih=>simp[ih,texts,cj]
theorem kZ{α:Type}(t:α→List UInt8)(l:List α)(c:Nat)(h:∀x∈l,(t x).length≤c):(texts t l).length≤l.length*c:=by
 induction l with
 |nil=>simp[texts]
 |cons x l ih=>
  have h1:=ih fun y hy=>h y (bo _ hy)
  have h2:=h x (bl ..);simp only[texts,cj,aD,bV] at h1 ⊢;have:(l.length+1)*c=l.length*c+c:=Nat.succ_mul _ _;omega
theorem mY{α β γ:Type}(l:List α)(t:α→List UInt8)(c a:Nat)(hc:∀x∈l,(t x).length≤c){f:St→Option (Out×St)}(S:Nat→List UInt8→β→St)(e:Nat)(E:List UInt8→γ→St)
  (h1:∀i (h:i<l.length) s x,s.length≤a+i*c→∃y,f (S i s x)=some (.normal,S (i+1) (s++t l[i]) y))
  (h3:∀s x,∃y,f (S l.length s x)=some (.exit e,E s y)) (s:List UInt8) (h0:s.length≤a):
  ∃g:β→γ,∀x,fx f (l.length+1) (S 0 s x)=some (.exit e,E (s++texts t l) (g x)):=by
 have:=jB l (fun s x=>s++t x) (fun i s=>s.length≤a+i*c) S e E (fun i h s hs=>by
  have h2:=hc _ (ax h);have:(i+1)*c=i*c+c:=Nat.succ_mul _ _;simp only[aD];omega) h1 (fun s x _=>h3 s x) s (by simpa using h0)
 simpa only[BC] using this
end Mx
namespace Mx
open Go
variable {M:Nat→Option Body}
def kx(a n b:Int):Bool:=decide (a≤n)&&decide (n≤b)
theorem bP.kx(h:bP.k M)(n a b:Int):run M 101 [.c (I n),.c (I a),.c (I b)] []=some (.c (.bool (kx a n b)),[]):=bP.ak h n a b
theorem bE.kx(h:bE.k M)(n a b:Int):run M 98 [.c (I n),.c (I a),.c (I b)] []=some (.c (.bool (kx a n b)),[]):=bE.ak h n a b
def lA(t w:Int):Bool:=kx 0 t 100000&&kx 0 w 2
theorem gn.ak(h:gn.k M)(t w:Int):run M 164 [.a [I t,I w]] []=some (.c (.bool (lA t w)),[]):=by
 have h1:=bP.kx h.2 t 0 100000;have h2:=bP.kx h.2 w 0 2;refine au (b:=gn.m) h.1 ⟨0, ?_⟩;cases c:kx 0 t 100000<;>simp (maxSteps:=9^9) (disch:=(first|omega|(simp;done)|(simp;omega))) [ba,gn.m,gn.b,aa,h1,h2,c,lA]
theorem gi.ak(h:gi.k M)(t w:Int):run M 183 [.a [I t,I w]] []=some (.c (.bool (lA t w)),[]):=by
 have h1:=bE.kx h.2 t 0 100000;have h2:=bE.kx h.2 w 0 2;refine au (b:=gi.m) h.1 ⟨0, ?_⟩;cases c:kx 0 t 100000<;>simp (maxSteps:=9^9) (disch:=(first|omega|(simp;done)|(simp;omega))) [ba,gi.m,gi.b,aa,h1,h2,c,lA]
def oM(r:mJ):Bool:=lA r.time r.eJ&&kx 0 r.val 1000000000
theorem ja.ak(h:ja.k M)(r:mJ):run M 272 [.a (aO r)] []=some (.c (.bool (oM r)),[]):=by
 have h1:=gn.ak h.2.2 r.time r.eJ;have h2:=bP.kx h.2.1 r.val 0 1000000000;refine au (b:=ja.m) h.1 ⟨0, ?_⟩;cases c:lA r.time r.eJ<;>simp (maxSteps:=9^9) (disch:=(first|omega|(simp;done)|(simp;omega))) [ba,ja.m,ja.b,aa,ab,h1,h2,c,oM]
theorem iX.ak(h:iX.k M)(r:mJ):run M 276 [.a (aO r)] []=some (.c (.bool (oM r)),[]):=by
 have h1:=gi.ak h.2.2 r.time r.eJ;have h2:=bE.kx h.2.1 r.val 0 1000000000;refine au (b:=iX.m) h.1 ⟨0, ?_⟩;cases c:lA r.time r.eJ<;>simp (maxSteps:=9^9) (disch:=(first|omega|(simp;done)|(simp;omega))) [ba,iX.m,iX.b,aa,ab,h1,h2,c,oM]
def qZ(l:List mJ)(i:Nat):Bool:=match l[i]? with
 |some r=> !oM r||decide (1<r.val)
 |none=>false
def mG(l:List mJ):Bool:=(dV (qZ l) l.length).isNone&&decide (l.length=3)
theorem pD{l:List mJ}{i:Nat}(h:i<l.length):qZ l i=(!oM l[i]||decide (1<l[i].val)):=by simp[qZ,h]
def J_(l:List mJ)(i:Nat)(x:Nat):St:={t:=[(0,.c (jf l)),(5,.c (jf l)),(6,.c (I l.length)),(7,.c (I i))],o:=[],n:=x}
def MT(l:List mJ)(x:Nat):St:={t:=[(0,.c (jf l)),(5,.c (jf l)),(6,.c (I l.length)),(7,.c (I l.length)),(8,.c (.bool false))],o:=[],n:=x}
theorem dx.ak(h:dx.k M)(l:List mJ)(hl:l.length≤1048576):run M 235 [.c (jf l)] []=some (.c (.bool (mG l)),[]):=by
 refine au (b:=dx.m) h.1 ⟨l.length+1, ?_⟩;obtain⟨g,hr⟩:=iz (f:=cz (run M) (l.length+1) dx.l0) l.length (qZ l) (J_ l) 2 (.bool false) 0 (MT l)
  (fun i hi x c=>by
   have e5:=cA (i:=i) (by omega);have hm:=ja.ak h.2 l[i];rw[pD hi] at c;simp at c;simp only[aO,c.1] at hm;have c2:¬(1:Int)<l[i].val:=by omega
   simp (maxSteps:=9^9) (disch:=(first|omega|(simp;done)|(simp;omega))) [dx.l0,ab,setAt,J_,hi,hm,aO,c2,e5])
  (fun i hi x c=>by
   have hm:=ja.ak h.2 l[i];rw[pD hi] at c;cases c1:oM l[i]
   ·simp only[aO,c1] at hm;simp (maxSteps:=9^9) (disch:=(first|omega|(simp;done)|(simp;omega))) [dx.l0,ab,setAt,J_,hi,hm,aO]
   ·simp[c1] at c;simp only[aO,c1] at hm;simp (maxSteps:=9^9) (disch:=(first|omega|(simp;done)|(simp;omega))) [dx.l0,ab,setAt,J_,hi,hm,aO,c])
  (fun x=>by simp (maxSteps:=9^9) (disch:=(first|omega|(simp;done)|(simp;omega))) [dx.l0,J_,MT])
 cases q:dV (qZ l) l.length with
 |none=>
  simp[J_,MT,q,lv] at hr;simp (maxSteps:=9^9) (disch:=(first|omega|(simp;done)|(simp;omega))) [ba,dx.m,dx.b,aa,hr,mG,q];omega
 |some k=>
  simp[J_,q,lv] at hr;simp (maxSteps:=9^9) (disch:=(first|omega|(simp;done)|(simp;omega))) [ba,dx.m,dx.b,aa,hr,mG,q]
def JH(l:List mJ)(i:Nat)(x:Nat):St:={t:=[(0,.c (jf l)),(3,.c (I i))],o:=[],n:=x}
def ME(l:List mJ)(x:Nat):St:={t:=[(0,.c (jf l)),(3,.c (I l.length)),(7,.c (.bool false))],o:=[],n:=x}
theorem dw.ak(h:dw.k M)(l:List mJ)(hl:l.length≤1048576):run M 242 [.c (jf l)] []=some (.c (.bool (mG l)),[]):=by
 refine au (b:=dw.m) h.1 ⟨l.length+1, ?_⟩;obtain⟨g,hr⟩:=iz (f:=cz (run M) (l.length+1) dw.l0) l.length (qZ l) (JH l) 2 (.bool false) 0 (ME l)
  (fun i hi x c=>by
   have e5:=cA (i:=i) (by omega);have hm:=iX.ak h.2 l[i];rw[pD hi] at c;simp at c;simp only[aO,c.1] at hm;have c2:¬(1:Int)<l[i].val:=by omega
   simp (maxSteps:=9^9) (disch:=(first|omega|(simp;done)|(simp;omega))) [dw.l0,ab,JH,hi,hm,aO,c2,e5])
  (fun i hi x c=>by
   have hm:=iX.ak h.2 l[i];rw[pD hi] at c;cases c1:oM l[i]
   ·simp only[aO,c1] at hm;simp (maxSteps:=9^9) (disch:=(first|omega|(simp;done)|(simp;omega))) [dw.l0,ab,JH,hi,hm,aO]
   ·simp[c1] at c;simp only[aO,c1] at hm;simp (maxSteps:=9^9) (disch:=(first|omega|(simp;done)|(simp;omega))) [dw.l0,ab,JH,hi,hm,aO,c])
  (fun x=>by simp (maxSteps:=9^9) (disch:=(first|omega|(simp;done)|(simp;omega))) [dw.l0,JH,ME])
 cases q:dV (qZ l) l.length with
 |none=>
  simp[JH,ME,q,lv] at hr;simp (maxSteps:=9^9) (disch:=(first|omega|(simp;done)|(simp;omega))) [ba,dw.m,dw.b,aa,hr,mG,q];omega
 |some k=>
  simp[JH,q,lv] at hr;simp (maxSteps:=9^9) (disch:=(first|omega|(simp;done)|(simp;omega))) [ba,dw.m,dw.b,aa,hr,mG,q]
theorem gg.ak(h:gg.k M)(n:Int):run M 147 [.c (I n)] []=some (.c (.bool (kx 1 n 9999)),[]):=by
 have h1:=bP.kx h.2 n 1 9999;refine au (b:=gg.m) h.1 ⟨0, ?_⟩;simp (maxSteps:=9^9) (disch:=(first|omega|(simp;done)|(simp;omega))) [ba,gg.m,gg.b,aa,h1]
def iZ(m:bj):Bool:=kx 1 m.gid 9999&&kx 1 m.uid 9999&&mG m.flags&&decide (m.text.length≤60)
theorem eK.ak(h:eK.k M)(m:bj)(hl:m.flags.length≤1048576):run M 166 [.a (ah m)] []=some (.c (.bool (iZ m)),[]):=by
 have h1:=gg.ak h.2.1 m.gid;have h2:=gg.ak h.2.1 m.uid;have h3:=dx.ak h.2.2 m.flags hl;refine au (b:=eK.m) h.1 ⟨0, ?_⟩;cases c1:kx 1 m.gid 9999
 ·simp (maxSteps:=9^9) (disch:=(first|omega|(simp;done)|(simp;omega))) [ba,eK.m,eK.b,aa,h1,c1,iZ]
 cases c2:kx 1 m.uid 9999
 ·simp (maxSteps:=9^9) (disch:=(first|omega|(simp;done)|(simp;omega))) [ba,eK.m,eK.b,aa,h1,h2,c1,c2,iZ]
 cases c3:mG m.flags
 ·simp (maxSteps:=9^9) (disch:=(first|omega|(simp;done)|(simp;omega))) [ba,eK.m,eK.b,aa,h1,h2,h3,c1,c2,c3,iZ]
 simp (maxSteps:=9^9) (disch:=(first|omega|(simp;done)|(simp;omega))) [ba,eK.m,eK.b,aa,h1,h2,h3,c1,c2,c3,iZ];omega
theorem dJ.ak(h:dJ.k M)(m:bj)(hl:m.flags.length≤1048576):run M 187 [.a (ah m)] []=some (.c (.bool (iZ m)),[]):=by
 have h1:=bE.kx h.2.1 m.gid 1 9999;have h2:=bE.kx h.2.1 m.uid 1 9999;have h3:=dw.ak h.2.2 m.flags hl;refine au (b:=dJ.m) h.1 ⟨0, ?_⟩;cases c1:kx 1 m.gid 9999
 ·simp (maxSteps:=9^9) (disch:=(first|omega|(simp;done)|(simp;omega))) [ba,dJ.m,dJ.b,aa,h1,c1,iZ]
 cases c2:kx 1 m.uid 9999
 ·simp (maxSteps:=9^9) (disch:=(first|omega|(simp;done)|(simp;omega))) [ba,dJ.m,dJ.b,aa,h1,h2,c1,c2,iZ]
 cases c3:mG m.flags
 ·simp (maxSteps:=9^9) (disch:=(first|omega|(simp;done)|(simp;omega))) [ba,dJ.m,dJ.b,aa,h1,h2,h3,c1,c2,c3,iZ]
 simp (maxSteps:=9^9) (disch:=(first|omega|(simp;done)|(simp;omega))) [ba,dJ.m,dJ.b,aa,h1,h2,h3,c1,c2,c3,iZ];omega
def qY(l:List UInt8)(i:Nat):Bool:=match l[i]? with
 |some b=>(decide ((b.toNat:Int)<97)||decide (122<(b.toNat:Int)))&&(decide ((b.toNat:Int)<48)||decide (57<(b.toNat:Int)))
 |none=>false
theorem qX{l:List UInt8}{i:Nat}(h:i<l.length):
  qY l i=((decide ((l[i].toNat:Int)<97)||decide (122<(l[i].toNat:Int)))&&(decide ((l[i].toNat:Int)<48)||decide (57<(l[i].toNat:Int)))):=by simp[qY,h]
def nU(l:List UInt8):Bool:=(dV (qY l) l.length).isNone&&kx 1 l.length 12
def zI(l:List UInt8)(i:Nat)(x:Nat):St:={t:=[(0,.c (S l)),(3,.c (I i))],o:=[],n:=x}
def J8(l:List UInt8)(x:Nat):St:={t:=[(0,.c (S l)),(3,.c (I l.length)),(7,.c (.bool false))],o:=[],n:=x}
theorem dP.ak(h:dP.k M)(l:List UInt8)(hl:l.length≤4611686018427387904):run M 89 [.c (S l)] []=some (.c (.bool (nU l)),[]):=by
 have h1:=bP.kx h.2 l.length 1 12;refine au (b:=dP.m) h.1 ⟨l.length+1, ?_⟩;obtain⟨g,hr⟩:=iz (f:=cz (run M) (l.length+1) dP.l0) l.length (qY l) (zI l) 2 (.bool false) 0 (J8 l)
  (fun i hi x c=>by
   have e5:=cA (i:=i) (by omega);rw[qX hi] at c;generalize hb:((l[i].toNat:Nat):Int)=b at c;by_cases c1:b<97
   ·by_cases c2:b<48
    ·simp[c1,c2] at c
    ·by_cases c3:57<b
     ·simp[c1,c2,c3] at c
     ·simp (maxSteps:=9^9) (disch:=(first|omega|(simp;done)|(simp;omega))) [dP.l0,d_,zI,hi,e5,hb,c1,c2,c3]
   ·by_cases c4:122<b
    ·have c3:57<b:=by omega
     simp[c1,c4,c3] at c
    ·simp (maxSteps:=9^9) (disch:=(first|omega|(simp;done)|(simp;omega))) [dP.l0,d_,zI,hi,e5,hb,c1,c4])
  (fun i hi x c=>by
   rw[qX hi] at c;generalize hb:((l[i].toNat:Nat):Int)=b at c;by_cases c1:b<97
   ·by_cases c2:b<48
    ·simp (maxSteps:=9^9) (disch:=(first|omega|(simp;done)|(simp;omega))) [dP.l0,d_,zI,hi,hb,c1,c2]
    ·by_cases c3:57<b
     ·simp (maxSteps:=9^9) (disch:=(first|omega|(simp;done)|(simp;omega))) [dP.l0,d_,zI,hi,hb,c1,c2,c3]
     ·simp[c1,c2,c3] at c
   ·by_cases c4:122<b
    ·have c2:¬b<48:=by omega
     have c3:57<b:=by omega
     simp (maxSteps:=9^9) (disch:=(first|omega|(simp;done)|(simp;omega))) [dP.l0,d_,zI,hi,hb,c1,c2,c3,c4]
    ·simp[c1,c4] at c)
  (fun x=>by simp (maxSteps:=9^9) (disch:=(first|omega|(simp;done)|(simp;omega))) [dP.l0,zI,J8])
 cases q:dV (qY l) l.length with
 |none=>
  simp[zI,J8,q,lv] at hr;simp (maxSteps:=9^9) (disch:=(first|omega|(simp;done)|(simp;omega))) [ba,dP.m,dP.b,aa,hr,nU,q,h1]
 |some k=>
  simp[zI,q,lv] at hr;simp (maxSteps:=9^9) (disch:=(first|omega|(simp;done)|(simp;omega))) [ba,dP.m,dP.b,aa,hr,nU,q]
def zj(l:List UInt8)(i:Nat)(x:Nat):St:={t:=[(0,.c (S l)),(3,.c (I i))],o:=[],n:=x}
def JF(l:List UInt8)(x:Nat):St:={t:=[(0,.c (S l)),(3,.c (I l.length)),(7,.c (.bool false))],o:=[],n:=x}
theorem dI.ak(h:dI.k M)(l:List UInt8)(hl:l.length≤4611686018427387904):run M 90 [.c (S l)] []=some (.c (.bool (nU l)),[]):=by
 have h1:=bE.kx h.2 l.length 1 12;refine au (b:=dI.m) h.1 ⟨l.length+1, ?_⟩;obtain⟨g,hr⟩:=iz (f:=cz (run M) (l.length+1) dI.l0) l.length (qY l) (zj l) 2 (.bool false) 0 (JF l)
  (fun i hi x c=>by
   have e5:=cA (i:=i) (by omega);rw[qX hi] at c;generalize hb:((l[i].toNat:Nat):Int)=b at c;by_cases c1:b<97
   ·by_cases c2:b<48
    ·simp[c1,c2] at c
    ·by_cases c3:57<b
     ·simp[c1,c2,c3] at c
     ·simp (maxSteps:=9^9) (disch:=(first|omega|(simp;done)|(simp;omega))) [dI.l0,d_,zj,hi,e5,hb,c1,c2,c3]
   ·by_cases c4:122<b
    ·have c3:57<b:=by omega
     simp[c1,c4,c3] at c
    ·simp (maxSteps:=9^9) (disch:=(first|omega|(simp;done)|(simp;omega))) [dI.l0,d_,zj,hi,e5,hb,c1,c4])
  (fun i hi x c=>by
   rw[qX hi] at c;generalize hb:((l[i].toNat:Nat):Int)=b at c;by_cases c1:b<97
   ·by_cases c2:b<48
    ·simp (maxSteps:=9^9) (disch:=(first|omega|(simp;done)|(simp;omega))) [dI.l0,d_,zj,hi,hb,c1,c2]
    ·by_cases c3:57<b
     ·simp (maxSteps:=9^9) (disch:=(first|omega|(simp;done)|(simp;omega))) [dI.l0,d_,zj,hi,hb,c1,c2,c3]
     ·simp[c1,c2,c3] at c
   ·by_cases c4:122<b
    ·have c2:¬b<48:=by omega
     have c3:57<b:=by omega
     simp (maxSteps:=9^9) (disch:=(first|omega|(simp;done)|(simp;omega))) [dI.l0,d_,zj,hi,hb,c1,c2,c3,c4]
    ·simp[c1,c4] at c)
  (fun x=>by simp (maxSteps:=9^9) (disch:=(first|omega|(simp;done)|(simp;omega))) [dI.l0,zj,JF])
 cases q:dV (qY l) l.length with
 |none=>
  simp[zj,JF,q,lv] at hr;simp (maxSteps:=9^9) (disch:=(first|omega|(simp;done)|(simp;omega))) [ba,dI.m,dI.b,aa,hr,nU,q,h1]
 |some k=>
  simp[zj,q,lv] at hr;simp (maxSteps:=9^9) (disch:=(first|omega|(simp;done)|(simp;omega))) [ba,dI.m,dI.b,aa,hr,nU,q]
def tl(l:List Int)(i:Nat):Bool:=match l[i]? with
 |some g=> !kx 1 g 9999||(decide (0<i)&&match l[i-1]? with|some f=>decide (g≤f)|none=>false)
 |none=>false
theorem ou{l:List Int}{i:Nat}(h:i<l.length):tl l i=(!kx 1 l[i] 9999||(decide (0<i)&&decide (l[i]≤l[i-1]))):=by
 simp[tl,h,(show i-1<l.length by omega)]
def lV(l:List Int)(most:Int):Bool:=(dV (tl l) l.length).isNone&&decide ((l.length:Int)≤most)
def Jr(l:List Int)(most:Int)(i:Nat)(x:Nat):St:={t:=[(0,.c (ints l)),(1,.c (I most)),(7,.c (ints l)),(8,.c (I l.length)),(9,.c (I i))],o:=[],n:=x}
def Na(l:List Int)(most:Int)(x:Nat):St:={t:=[(0,.c (ints l)),(1,.c (I most)),(7,.c (ints l)),(8,.c (I l.length)),(9,.c (I l.length)),(10,.c (.bool false))],o:=[],n:=x}
theorem dg.ak(h:dg.k M)(l:List Int)(most:Int)(hl:l.length≤4611686018427387904):run M 165 [.c (ints l),.c (I most)] []=some (.c (.bool (lV l most)),[]):=by
 refine au (b:=dg.m) h.1 ⟨l.length+1, ?_⟩;obtain⟨g,hr⟩:=iz (f:=cz (run M) (l.length+1) dg.l0) l.length (tl l) (Jr l most) 4 (.bool false) 0 (Na l most)
  (fun i hi x c=>by
   have e5:=cA (i:=i) (by omega);have hm:=gg.ak h.2 l[i];rw[ou hi] at c;simp at c;simp only[c.1] at hm;by_cases c1:0<i
   ·have c2:¬l[i]≤l[i-1]:=by have:=c.2 c1;omega
    have e6:IntKind.i64.wrap ((i:Int)-1)=((i-1:Nat):Int):=by rw[wrap_i64 (by omega) (by omega)];omega
    simp (maxSteps:=9^9) (disch:=(first|omega|(simp;done)|(simp;omega))) [dg.l0,Jr,hi,hm,c1,c2,e5,e6]
   ·simp (maxSteps:=9^9) (disch:=(first|omega|(simp;done)|(simp;omega))) [dg.l0,Jr,hi,hm,c1,e5])
  (fun i hi x c=>by
   have hm:=gg.ak h.2 l[i];rw[ou hi] at c;cases c1:kx 1 l[i] 9999
   ·simp only[c1] at hm;simp (maxSteps:=9^9) (disch:=(first|omega|(simp;done)|(simp;omega))) [dg.l0,Jr,hi,hm]
   ·simp[c1] at c;obtain⟨c2,c3⟩:=c;simp only[c1] at hm;have e6:IntKind.i64.wrap ((i:Int)-1)=((i-1:Nat):Int):=by rw[wrap_i64 (by omega) (by omega)];omega
    simp (maxSteps:=9^9) (disch:=(first|omega|(simp;done)|(simp;omega))) [dg.l0,Jr,hi,hm,c2,c3,e6])
  (fun x=>by simp (maxSteps:=9^9) (disch:=(first|omega|(simp;done)|(simp;omega))) [dg.l0,Jr,Na])
 cases q:dV (tl l) l.length with
 |none=>
  simp[Jr,Na,q,lv] at hr;simp (maxSteps:=9^9) (disch:=(first|omega|(simp;done)|(simp;omega))) [ba,dg.m,dg.b,aa,hr,lV,q]
 |some k=>
  simp[Jr,q,lv] at hr;simp (maxSteps:=9^9) (disch:=(first|omega|(simp;done)|(simp;omega))) [ba,dg.m,dg.b,aa,hr,lV,q]
def Je(l:List Int)(most:Int)(i:Nat)(x:Nat):St:={t:=[(0,.c (ints l)),(1,.c (I most)),(5,.c (I i))],o:=[],n:=x}
def My(l:List Int)(most:Int)(x:Nat):St:={t:=[(0,.c (ints l)),(1,.c (I most)),(5,.c (I l.length)),(9,.c (.bool false))],o:=[],n:=x}
theorem cq.ak(h:cq.k M)(l:List Int)(most:Int)(hl:l.length≤4611686018427387904):run M 186 [.c (ints l),.c (I most)] []=some (.c (.bool (lV l most)),[]):=by
 refine au (b:=cq.m) h.1 ⟨l.length+1, ?_⟩;obtain⟨g,hr⟩:=iz (f:=cz (run M) (l.length+1) cq.l0) l.length (tl l) (Je l most) 4 (.bool false) 0 (My l most)
  (fun i hi x c=>by
   have e5:=cA (i:=i) (by omega);have hm:=bE.kx h.2 l[i] 1 9999;rw[ou hi] at c;simp at c;simp only[c.1] at hm;by_cases c1:0<i
   ·have c2:¬l[i]≤l[i-1]:=by have:=c.2 c1;omega
    have e6:IntKind.i64.wrap ((i:Int)-1)=((i-1:Nat):Int):=by rw[wrap_i64 (by omega) (by omega)];omega
    simp (maxSteps:=9^9) (disch:=(first|omega|(simp;done)|(simp;omega))) [cq.l0,Je,hi,hm,c1,c2,e5,e6]
   ·simp (maxSteps:=9^9) (disch:=(first|omega|(simp;done)|(simp;omega))) [cq.l0,Je,hi,hm,c1,e5])
  (fun i hi x c=>by
   have hm:=bE.kx h.2 l[i] 1 9999;rw[ou hi] at c;cases c1:kx 1 l[i] 9999
   ·simp only[c1] at hm;simp (maxSteps:=9^9) (disch:=(first|omega|(simp;done)|(simp;omega))) [cq.l0,Je,hi,hm]
   ·simp[c1] at c;obtain⟨c2,c3⟩:=c;simp only[c1] at hm;have e6:IntKind.i64.wrap ((i:Int)-1)=((i-1:Nat):Int):=by rw[wrap_i64 (by omega) (by omega)];omega
    simp (maxSteps:=9^9) (disch:=(first|omega|(simp;done)|(simp;omega))) [cq.l0,Je,hi,hm,c2,c3,e6])
  (fun x=>by simp (maxSteps:=9^9) (disch:=(first|omega|(simp;done)|(simp;omega))) [cq.l0,Je,My])
 cases q:dV (tl l) l.length with
 |none=>
  simp[Je,My,q,lv] at hr;simp (maxSteps:=9^9) (disch:=(first|omega|(simp;done)|(simp;omega))) [ba,cq.m,cq.b,aa,hr,lV,q]
 |some k=>
  simp[Je,q,lv] at hr;simp (maxSteps:=9^9) (disch:=(first|omega|(simp;done)|(simp;omega))) [ba,cq.m,cq.b,aa,hr,lV,q]
def zG(l:List Int)(g:Int)(i:Nat):Bool:=match l[i]? with
 |some x=>decide (x=g)
 |none=>false
theorem sr{l:List Int}{g:Int}{i:Nat}(h:i<l.length):zG l g i=decide (l[i]=g):=by simp[zG,h]
theorem AM(l:List Int)(g:Int):(dV (zG l g) l.length).isSome=decide (g∈l):=by
 rw[Bool.eq_iff_iff];simp only[decide_eq_true_eq];cases q:dV (zG l g) l.length with
 |none=>
  have:=lZ q;refine⟨fun h=>by simp at h,fun h=> ?_⟩;obtain⟨i,hi,e⟩:=bQ h;have h1:=this i hi;rw[sr hi] at h1;simp[e] at h1
 |some k=>
  obtain⟨h1,h2,_⟩:=lY q;rw[sr h1] at h2;simp at h2;refine⟨fun _=> ?_,fun _=>rfl⟩;rw[←h2];exact ax h1
def Kx(l:List Int)(g:Int)(i:Nat)(x:Nat):St:={t:=[(0,.c (ints l)),(1,.c (I g)),(5,.c (I i))],o:=[],n:=x}
def MB(l:List Int)(g:Int)(x:Nat):St:={t:=[(0,.c (ints l)),(1,.c (I g)),(5,.c (I l.length)),(9,.c (.bool false))],o:=[],n:=x}
theorem bf.ak(h:bf.k M)(l:List Int)(g:Int)(hl:l.length≤4611686018427387904):run M 132 [.c (ints l),.c (I g)] []=some (.c (.bool (decide (g∈l))),[]):=by
 refine au (b:=bf.m) h ⟨l.length+1, ?_⟩;obtain⟨g',hr⟩:=iz (f:=cz (run M) (l.length+1) bf.l0) l.length (zG l g) (Kx l g) 4 (.bool true) 0 (MB l g)
  (fun i hi x c=>by
   have e5:=cA (i:=i) (by omega);rw[sr hi] at c;simp at c;simp (maxSteps:=9^9) (disch:=(first|omega|(simp;done)|(simp;omega))) [bf.l0,Kx,hi,e5,c])
  (fun i hi x c=>by
   rw[sr hi] at c;simp at c;simp (maxSteps:=9^9) (disch:=(first|omega|(simp;done)|(simp;omega))) [bf.l0,Kx,hi,c])
  (fun x=>by simp (maxSteps:=9^9) (disch:=(first|omega|(simp;done)|(simp;omega))) [bf.l0,Kx,MB])
 have hm:=AM l g;rw[←hm];cases q:dV (zG l g) l.length with
 |none=>
  simp[Kx,MB,q,lv] at hr;simp (maxSteps:=9^9) (disch:=(first|omega|(simp;done)|(simp;omega))) [ba,bf.m,bf.b,aa,hr]
 |some k=>
  simp[Kx,q,lv] at hr;simp (maxSteps:=9^9) (disch:=(first|omega|(simp;done)|(simp;omega))) [ba,bf.m,bf.b,aa,hr]
def Kw(l:List Int)(g:Int)(i:Nat)(x:Nat):St:={t:=[(0,.c (ints l)),(1,.c (I g)),(7,.c (I l.length)),(8,.c (I i))],o:=[],n:=x}
theorem bJ.ak(h:bJ.k M)(l:List Int)(g:Int)(hl:l.length≤4611686018427387904):run M 234 [.c (ints l),.c (I g)] []=some (.c (I (dA (dV (zG l g) l.length))),[]):=by
 refine au (b:=bJ.m) h ⟨l.length+1, ?_⟩;obtain⟨g',hr⟩:=mU (f:=cz (run M) (l.length+1) bJ.l0) l.length (zG l g) (Kw l g) j6 pE
  (fun i hi x c=>by
   have e5:=cA (i:=i) (by omega);rw[sr hi] at c;simp at c;have c':¬g=l[i]:=fun q=>c q.symm
   simp (maxSteps:=9^9) (disch:=(first|omega|(simp;done)|(simp;omega))) [bJ.l0,Kw,hi,e5,c'])
  (fun i hi x c=>by
   rw[sr hi] at c;simp at c;simp (maxSteps:=9^9) (disch:=(first|omega|(simp;done)|(simp;omega))) [bJ.l0,Kw,hi,c,j6];exact⟨⟨[],[],_⟩,rfl⟩)
  (fun x=>by simp (maxSteps:=9^9) (disch:=(first|omega|(simp;done)|(simp;omega))) [bJ.l0,Kw,j6])
 cases q:dV (zG l g) l.length with
 |none=>
  simp[Kw,q,j6] at hr;simp (maxSteps:=9^9) (disch:=(first|omega|(simp;done)|(simp;omega))) [ba,bJ.m,bJ.b,aa,hr,dA]
 |some k=>
  simp[Kw,q,j6] at hr;simp (maxSteps:=9^9) (disch:=(first|omega|(simp;done)|(simp;omega))) [ba,bJ.m,bJ.b,aa,hr,dA]
theorem FO(q:Option Nat):decide (0≤dA q)=q.isSome:=by cases q<;>simp[dA]
theorem aI.ak(h:aI.k M)(l:List Int)(g:Int)(hl:l.length≤4611686018427387904):run M 156 [.c (ints l),.c (I g)] []=some (.c (.bool (decide (g∈l))),[]):=by
 have h1:=bJ.ak h.2 l g hl;refine au (b:=aI.m) h.1 ⟨0, ?_⟩;rw[←AM l g,←FO];simp (maxSteps:=9^9) (disch:=(first|omega|(simp;done)|(simp;omega))) [ba,aI.m,aI.b,aa,h1]
def n7(b:bq)(i:Nat):Bool:=match b.ae[i]? with
 |some m=> !iZ m||decide (b.next≤m.uid)||(decide (0<i)&&match b.ae[i-1]? with|some p=>decide (m.uid≤p.uid)|none=>false)|| !decide (dA (fX b.ae m.gid)=(i:Int))||decide (m.gid∈b.gone)
 |none=>false
theorem nN{b:bq}{i:Nat}(h:i<b.ae.length):n7 b i=(!iZ b.ae[i]||decide (b.next≤b.ae[i].uid)||(decide (0<i)&&decide (b.ae[i].uid≤b.ae[i-1].uid))||
  !decide (dA (fX b.ae b.ae[i].gid)=(i:Int))||decide (b.ae[i].gid∈b.gone)):=by
 simp[n7,h,(show i-1<b.ae.length by omega)]
def fA(b:bq):Bool:=kx 1 b.gid 9999&&nU b.name&&lA b.time b.eJ&&kx 1 b.next 10000&&decide (b.ae.length≤10)&&lV b.gone 40&&(dV (n7 b) b.ae.length).isNone
def Bs(b:bq)(i:Nat)(x:Nat×Nat):St:={t:=[(1,.c (.ptr 1 x.1 0 0)),(40,.c (ae b.ae)),(41,.c (I b.ae.length)),(42,.c (I i))],o:=[(1,⟨x.1,7,true,true,[af b]⟩)],n:=x.2}
def Ka(b:bq)(x:Nat×Nat):St:={t:=[(1,.c (.ptr 1 x.1 0 0)),(40,.c (ae b.ae)),(41,.c (I b.ae.length)),(42,.c (I b.ae.length)),(43,.c (.bool false))],o:=[(1,⟨x.1,7,true,true,[af b]⟩)],n:=x.2}
theorem bC.mh(hat:cy.k M)(hin:aI.k M)(hmo:eK.k M)(b:bq)(hml:b.ae.length≤1048576)(hgl:b.gone.length≤4611686018427387904)(hw:∀m∈b.ae,m.flags.length≤1048576)
  (i:Nat) (hi:i<b.ae.length) (x:Nat×Nat) (c:n7 b i=false):∃y,cz (run M) (b.ae.length+1) bC.l0 (Bs b i x)=some (.normal,Bs b (i+1) y):=by
   obtain⟨v,x⟩:=x;simp only[aE];have hm:=eK.ak hmo b.ae[i] (hw _ (ax hi));have ha:=cy.ak hat b b.ae[i].gid hml;have hg:=aI.ak hin b.gone b.ae[i].gid hgl;simp only[ah,af] at hm ha hg;rw[nN hi] at c;simp at c;obtain⟨⟨⟨⟨c1,c2⟩,c3⟩,c4⟩,c5⟩:=c;have e5:=cA (i:=i) (by omega);rw[c1] at hm;rw[c4] at ha;rw[decide_eq_false c5] at hg;have c2':¬b.next≤b.ae[i].uid:=by omega
   by_cases c6:0<i
   ·have e6:IntKind.i64.wrap ((i:Int)-1)=((i-1:Nat):Int):=by rw[wrap_i64 (by omega) (by omega)];omega
    have c3':¬b.ae[i].uid≤b.ae[i-1].uid:=by have:=c3 c6;omega
    simp (maxSteps:=9^9) [bC.l0,setAt,Bs,ah,hi,hm,ha,hg,c2',c6,c3',e5,e6,(show i-1<b.ae.length by omega)]
   ·simp (maxSteps:=9^9) [bC.l0,setAt,Bs,ah,hi,hm,ha,hg,c2',c6,e5]
theorem bC.bad(hat:cy.k M)(hin:aI.k M)(hmo:eK.k M)(b:bq)(hml:b.ae.length≤1048576)(hgl:b.gone.length≤4611686018427387904)(hw:∀m∈b.ae,m.flags.length≤1048576)
  (i:Nat) (hi:i<b.ae.length) (x:Nat×Nat) (c:n7 b i=true):∃k,cz (run M) (b.ae.length+1) bC.l0 (Bs b i x)=some (.ret,{t:=[(2,.c (.bool false))],o:=[],n:=k}):=by
   obtain⟨v,x⟩:=x;have hm:=eK.ak hmo b.ae[i] (hw _ (ax hi));have ha:=cy.ak hat b b.ae[i].gid hml;have hg:=aI.ak hin b.gone b.ae[i].gid hgl;simp only[ah,af] at hm ha hg;rw[nN hi] at c;cases c1:iZ b.ae[i]
   ·rw[c1] at hm;simp (maxSteps:=9^9) [bC.l0,setAt,Bs,ah,hi,hm]
   rw[c1] at hm;by_cases c2:b.next≤b.ae[i].uid
   ·simp (maxSteps:=9^9) [bC.l0,setAt,Bs,ah,hi,hm,c2]
   have c2':¬b.next≤b.ae[i].uid:=c2;by_cases c6:0<i
   ·have e6:IntKind.i64.wrap ((i:Int)-1)=((i-1:Nat):Int):=by rw[wrap_i64 (by omega) (by omega)];omega
    by_cases c3:b.ae[i].uid≤b.ae[i-1].uid
    ·simp (maxSteps:=9^9) [bC.l0,setAt,Bs,ah,hi,hm,c2,c6,c3,e6,(show i-1<b.ae.length by omega)]
    by_cases c4:dA (fX b.ae b.ae[i].gid)=(i:Int);rotate_left
    ·simp (maxSteps:=9^9) [bC.l0,setAt,Bs,ah,hi,hm,c2,c6,c3,e6,(show i-1<b.ae.length by omega),ha,c4]
    rw[c4] at ha;by_cases c5:b.ae[i].gid∈b.gone;rotate_left
    ·simp[c1,c2,c3,c4,c5] at c
    rw[decide_eq_true c5] at hg;simp (maxSteps:=9^9) [bC.l0,setAt,Bs,ah,hi,hm,c2,c6,c3,e6,(show i-1<b.ae.length by omega),ha,hg]
   ·have c3:=c6;by_cases c4:dA (fX b.ae b.ae[i].gid)=(i:Int);rotate_left
    ·simp (maxSteps:=9^9) [bC.l0,setAt,Bs,ah,hi,hm,c2,c6,ha,c4]
    rw[c4] at ha;by_cases c5:b.ae[i].gid∈b.gone;rotate_left
    ·simp[c1,c2,c3,c4,c5] at c
    rw[decide_eq_true c5] at hg;simp (maxSteps:=9^9) [bC.l0,setAt,Bs,ah,hi,hm,c2,c6,ha,hg]
theorem bC.ak(h:bC.k M)(b:bq)(hml:b.ae.length≤1048576)(hgl:b.gone.length≤4611686018427387904)(hnl:b.name.length≤4611686018427387904)(hw:∀m∈b.ae,m.flags.length≤1048576):
  run M 74 [.a (af b)] []=some (.c (.bool (fA b)),[]):=by
 obtain⟨h0,hat,hno,hwi,hig,hin,hso,hgo,hmo⟩:=h;have h1:=gg.ak hig b.gid;have h2:=dP.ak hno b.name hnl;have h3:=gn.ak hso b.time b.eJ;have h4:=bP.kx hwi b.next 1 10000;have h5:=dg.ak hgo b.gone 40 hgl;refine au (b:=bC.m) h0 ⟨b.ae.length+1, ?_⟩;obtain⟨g,hr⟩:=iz (f:=cz (run M) (b.ae.length+1) bC.l0) b.ae.length (n7 b) (Bs b) 2 (.bool false) 0 (Ka b)
  (fun i hi x c=>bC.mh hat hin hmo b hml hgl hw i hi x c)
  (fun i hi x c=>bC.bad hat hin hmo b hml hgl hw i hi x c)
  (fun x=>by
   obtain⟨v,x⟩:=x;simp only[aE];simp (maxSteps:=9^9) [bC.l0,Bs,Ka])
 cases c1:kx 1 b.gid 9999
 ·simp (maxSteps:=9^9) [ba,bC.m,bC.b,aa,h1,c1,fA]
 cases c2:nU b.name
 ·simp (maxSteps:=9^9) [ba,bC.m,bC.b,aa,h1,h2,c1,c2,fA]
 cases c3:lA b.time b.eJ
 ·simp (maxSteps:=9^9) [ba,bC.m,bC.b,aa,h1,h2,h3,c1,c2,c3,fA]
 cases c4:kx 1 b.next 10000
 ·simp (maxSteps:=9^9) [ba,bC.m,bC.b,aa,h1,h2,h3,h4,c1,c2,c3,c4,fA]
 by_cases c5:10<b.ae.length
 ·have c5':¬b.ae.length≤10:=by omega
  have ci:(10:Int)<b.ae.length:=by omega
  simp (maxSteps:=9^9) [ba,bC.m,bC.b,aa,h1,h2,h3,h4,c1,c2,c3,c4,c5',ci,fA]
 have c5':b.ae.length≤10:=by omega
 have ci:¬(10:Int)<b.ae.length:=by omega
 cases c6:lV b.gone 40
 ·simp (maxSteps:=9^9) [ba,bC.m,bC.b,aa,h1,h2,h3,h4,h5,c1,c2,c3,c4,ci,c6,fA]
 cases q:dV (n7 b) b.ae.length with
 |none=>
  simp[Bs,Ka,q,lv] at hr;simp (maxSteps:=9^9) [ba,bC.m,bC.b,aa,h1,h2,h3,h4,h5,c1,c2,c3,c4,c5',ci,c6,hr,fA,q]
 |some k=>
  simp[Bs,q,lv] at hr;simp (maxSteps:=9^9) [ba,bC.m,bC.b,aa,h1,h2,h3,h4,h5,c1,c2,c3,c4,c5',ci,c6,hr,fA,q]
def sF(b:bq)(i:Nat)(x:Nat×Nat):St:={t:=[(1,.c (.ptr 1 x.1 0 0)),(3,.c (I i))],o:=[(1,⟨x.1,7,true,true,[af b]⟩)],n:=x.2}
def Fg(b:bq)(x:Nat×Nat):St:={t:=[(1,.c (.ptr 1 x.1 0 0)),(3,.c (I b.ae.length)),(43,.c (.bool false))],o:=[(1,⟨x.1,7,true,true,[af b]⟩)],n:=x.2}
theorem br.mh(hat:bI.k M)(hin:bf.k M)(hmo:dJ.k M)(b:bq)(hml:b.ae.length≤1048576)(hgl:b.gone.length≤4611686018427387904)(hw:∀m∈b.ae,m.flags.length≤1048576)
  (i:Nat) (hi:i<b.ae.length) (x:Nat×Nat) (c:n7 b i=false):∃y,cz (run M) (b.ae.length+1) br.l0 (sF b i x)=some (.normal,sF b (i+1) y):=by
   obtain⟨v,x⟩:=x;simp only[aE];have hm:=dJ.ak hmo b.ae[i] (hw _ (ax hi));have ha:=bI.ak hat b b.ae[i].gid hml;have hg:=bf.ak hin b.gone b.ae[i].gid hgl;simp only[ah,af] at hm ha hg;rw[nN hi] at c;simp at c;obtain⟨⟨⟨⟨c1,c2⟩,c3⟩,c4⟩,c5⟩:=c;have e5:=cA (i:=i) (by omega);rw[c1] at hm;rw[c4] at ha;rw[decide_eq_false c5] at hg;have c2':¬b.next≤b.ae[i].uid:=by omega
   by_cases c6:0<i
   ·have e6:IntKind.i64.wrap ((i:Int)-1)=((i-1:Nat):Int):=by rw[wrap_i64 (by omega) (by omega)];omega
    have c3':¬b.ae[i].uid≤b.ae[i-1].uid:=by have:=c3 c6;omega
    simp (maxSteps:=9^9) [br.l0,setAt,sF,ah,hi,hm,ha,hg,c2',c6,c3',e5,e6,(show i-1<b.ae.length by omega)]
   ·simp (maxSteps:=9^9) [br.l0,setAt,sF,ah,hi,hm,ha,hg,c2',c6,e5]
theorem br.bad(hat:bI.k M)(hin:bf.k M)(hmo:dJ.k M)(b:bq)(hml:b.ae.length≤1048576)(hgl:b.gone.length≤4611686018427387904)(hw:∀m∈b.ae,m.flags.length≤1048576)
  (i:Nat) (hi:i<b.ae.length) (x:Nat×Nat) (c:n7 b i=true):∃k,cz (run M) (b.ae.length+1) br.l0 (sF b i x)=some (.ret,{t:=[(2,.c (.bool false))],o:=[],n:=k}):=by
   obtain⟨v,x⟩:=x;have hm:=dJ.ak hmo b.ae[i] (hw _ (ax hi));have ha:=bI.ak hat b b.ae[i].gid hml;have hg:=bf.ak hin b.gone b.ae[i].gid hgl;simp only[ah,af] at hm ha hg;rw[nN hi] at c;cases c1:iZ b.ae[i]
   ·rw[c1] at hm;simp (maxSteps:=9^9) [br.l0,setAt,sF,ah,hi,hm]
   rw[c1] at hm;by_cases c2:b.next≤b.ae[i].uid
   ·simp (maxSteps:=9^9) [br.l0,setAt,sF,ah,hi,hm,c2]
   have c2':¬b.next≤b.ae[i].uid:=c2;by_cases c6:0<i
   ·have e6:IntKind.i64.wrap ((i:Int)-1)=((i-1:Nat):Int):=by rw[wrap_i64 (by omega) (by omega)];omega
    by_cases c3:b.ae[i].uid≤b.ae[i-1].uid
    ·simp (maxSteps:=9^9) [br.l0,setAt,sF,ah,hi,hm,c2,c6,c3,e6,(show i-1<b.ae.length by omega)]
    by_cases c5:b.ae[i].gid∈b.gone
    ·rw[decide_eq_true c5] at hg;simp (maxSteps:=9^9) [br.l0,setAt,sF,ah,hi,hm,c2,c6,c3,e6,(show i-1<b.ae.length by omega),hg]
    rw[decide_eq_false c5] at hg;by_cases c4:dA (fX b.ae b.ae[i].gid)=(i:Int)
    ·simp[c1,c2,c3,c4,c5] at c
    simp (maxSteps:=9^9) [br.l0,setAt,sF,ah,hi,hm,c2,c6,c3,e6,(show i-1<b.ae.length by omega),ha,hg,c4]
   ·have c3:=c6;by_cases c5:b.ae[i].gid∈b.gone
    ·rw[decide_eq_true c5] at hg;simp (maxSteps:=9^9) [br.l0,setAt,sF,ah,hi,hm,c2,c6,hg]
    rw[decide_eq_false c5] at hg;by_cases c4:dA (fX b.ae b.ae[i].gid)=(i:Int)
    ·simp[c1,c2,c3,c4,c5] at c
    simp (maxSteps:=9^9) [br.l0,setAt,sF,ah,hi,hm,c2,c6,ha,hg,c4]
theorem br.ak(h:br.k M)(b:bq)(hml:b.ae.length≤1048576)(hgl:b.gone.length≤4611686018427387904)(hnl:b.name.length≤4611686018427387904)(hw:∀m∈b.ae,m.flags.length≤1048576):
  run M 88 [.a (af b)] []=some (.c (.bool (fA b)),[]):=by
 obtain⟨h0,hno,hat,hwi,hin,hso,hgo,hmo⟩:=h;have h1:=bE.kx hwi b.gid 1 9999;have h2:=dI.ak hno b.name hnl;have h3:=gi.ak hso b.time b.eJ;have h4:=bE.kx hwi b.next 1 10000;have h5:=cq.ak hgo b.gone 40 hgl;refine au (b:=br.m) h0 ⟨b.ae.length+1, ?_⟩;obtain⟨g,hr⟩:=iz (f:=cz (run M) (b.ae.length+1) br.l0) b.ae.length (n7 b) (sF b) 2 (.bool false) 0 (Fg b)
  (fun i hi x c=>br.mh hat hin hmo b hml hgl hw i hi x c)
  (fun i hi x c=>br.bad hat hin hmo b hml hgl hw i hi x c)
  (fun x=>by
   obtain⟨v,x⟩:=x;simp only[aE];simp (maxSteps:=9^9) [br.l0,sF,Fg])
 cases c1:kx 1 b.gid 9999
 ·simp (maxSteps:=9^9) [ba,br.m,br.b,aa,h1,c1,fA]
 cases c2:nU b.name
 ·simp (maxSteps:=9^9) [ba,br.m,br.b,aa,h1,h2,c1,c2,fA]
 cases c3:lA b.time b.eJ
 ·simp (maxSteps:=9^9) [ba,br.m,br.b,aa,h1,h2,h3,c1,c2,c3,fA]
 cases c4:kx 1 b.next 10000
 ·simp (maxSteps:=9^9) [ba,br.m,br.b,aa,h1,h2,h3,h4,c1,c2,c3,c4,fA]
 by_cases c5:10<b.ae.length
 ·have c5':¬b.ae.length≤10:=by omega
  have ci:(10:Int)<b.ae.length:=by omega
  simp (maxSteps:=9^9) [ba,br.m,br.b,aa,h1,h2,h3,h4,c1,c2,c3,c4,c5',ci,fA]
 have c5':b.ae.length≤10:=by omega
 have ci:¬(10:Int)<b.ae.length:=by omega
 cases c6:lV b.gone 40
 ·simp (maxSteps:=9^9) [ba,br.m,br.b,aa,h1,h2,h3,h4,h5,c1,c2,c3,c4,ci,c6,fA]
 cases q:dV (n7 b) b.ae.length with
 |none=>
  simp[sF,Fg,q,lv] at hr;simp (maxSteps:=9^9) [ba,br.m,br.b,aa,h1,h2,h3,h4,h5,c1,c2,c3,c4,c5',ci,c6,hr,fA,q]
 |some k=>
  simp[sF,q,lv] at hr;simp (maxSteps:=9^9) [ba,br.m,br.b,aa,h1,h2,h3,h4,h5,c1,c2,c3,c4,c5',ci,c6,hr,fA,q]
structure a7 where
 eJ:Int
 time:Int
 boxes:List bq
 gone:List Int
abbrev boxes(l:List bq):T:= .sl false 7 (l.map af)
abbrev aq(s:a7):List T:=[I s.eJ,I s.time,boxes s.boxes,ints s.gone]
abbrev a_(s:a7):List T:=[I s.eJ,I s.time,.sl true 7 (s.boxes.map af),.sl true 1 (aA s.gone)]
def sC(s:a7):Prop:=s.boxes.length≤maxLen∧s.gone.length≤maxLen∧∀b∈s.boxes,um b
def mA(l:List bq):Nat:=l.length+(l.map n_).sum
def iW(s:a7):Nat:=mA s.boxes+s.gone.length
theorem ze{l:List bq}{b:bq}(h:b∈l):n_ b≤mA l:=by
 have:=B4 n_ l b h;unfold mA;omega
def EN:List T→Nat
 |[_,.str s,_,_,_,.sl _ _ ms,.sl _ _ gs]=>s.size+(ms.length+(ms.map By).sum)+gs.length
 |_=>0
theorem yn(b:bq):EN (af b)=n_ b:=by
 have e:((b.ae.map ah).map By).sum=(b.ae.map pe).sum:=by
  rw[List.map_map];congr 1;apply List.map_congr_left;intro m _;exact uu m
 show (bs b.name).size+((b.ae.map ah).length+((b.ae.map ah).map By).sum)+(aA b.gone).length=_;rw[e,zU,eM,AN];rfl
theorem jO.ak(h:jO.k M)(l:List bq)(hl:l.length≤maxLen)(hm:∀b∈l,um b)(k:Nat)(hk:k≤1048576):
  run M 115 [.c (boxes l),.c (I k)] []=some (.c (I (if k<mA l then -1 else(k:Int)-mA l)),[]):=by
 have hx:maxLen=9223372036854775807:=rfl;have:=z_ (M:=M) (F:=115) (n:=7) (f:=17) h.1 (rows:=l.map af) (by simp;omega) EN (by
  intro r hr;obtain⟨b,hbb,rfl⟩:=List.mem_map.1 hr;refine⟨rfl,rfl,fun k hk=> ?_⟩;rw[yn];exact ie.ak h.2 b (hm b hbb) k hk) k hk
 have e:((l.map af).map EN).sum=(l.map n_).sum:=by
  rw[List.map_map];congr 1;apply List.map_congr_left;intro m _;exact yn m
 rw[e,eM] at this;exact this
theorem gm.ak(h:gm.k M)(s:a7)(hs:sC s)(k:Nat)(hk:k≤1048576):run M 29 [.a (aq s),.c (I k)] []=some (.c (I (if k<iW s then -1 else(k:Int)-iW s)),[]):=by
 have hx:maxLen=9223372036854775807:=rfl;obtain⟨f1,f2,f3⟩:=hs;obtain⟨h0,k2,k1⟩:=h;have h1:=jO.ak k1 s.boxes f1 f3 k hk;refine au (b:=gm.m) h0 ⟨0, ?_⟩;by_cases c1:k<mA s.boxes
 ·rw[if_pos c1] at h1;rw[if_pos (show k<iW s by unfold iW;omega)];simp[ba,gm.m,gm.b,aa,h1]
 rw[if_neg c1] at h1;have d1:¬(k:Int)-mA s.boxes<0:=by omega
 have h2:=gP.ak k2 s.gone (by omega) ((k:Int)-mA s.boxes) (by omega) (by omega);by_cases c3:(k:Int)-mA s.boxes<s.gone.length
 ·rw[if_pos c3] at h2;rw[if_pos (show k<iW s by unfold iW;omega)];simp[ba,gm.m,gm.b,aa,d1,h1,h2]
 ·rw[if_neg c3] at h2;have d3:¬(k:Int)-mA s.boxes-s.gone.length<0:=by omega
  rw[if_neg (show ¬k<iW s by unfold iW;omega)];have e4:(k:Int)-(iW s:Nat)=(k:Int)-mA s.boxes-s.gone.length:=by unfold iW;omega
  rw[e4];simp[ba,gm.m,gm.b,aa,d1,d3,h1,h2]
theorem jN.ak(h:jN.k M)(l:List bq)(hl:mA l≤1048576):run M 117 [.c (boxes l)] []=some (.c (.sl true 7 (l.map af)),[]):=by
 refine wx (M:=M) (F:=117) (n:=7) (by':=96) (z:=[.int .i64 0,.str ⟨#[]⟩,.int .i64 0,.int .i64 0,.int .i64 0,.aL 4,.aL 1]) (f:=18) h.1 rfl (by simp;unfold mA at hl;omega) (by omega) (fun r hr=> ?_);obtain⟨x,hx,rfl⟩:=List.mem_map.1 hr;exact⟨rfl,rfl,_,j0.ak h.2 x (Nat.le_trans (ze hx) hl),rfl,rfl⟩
theorem iO.ak(h:iO.k M)(s:a7)(hs:iW s≤1048576):run M 30 [.a (aq s)] []=some (.a (a_ s),[]):=by
 obtain⟨h0,k1,k2⟩:=h;have h1:=i_.ak k1 s.gone (by unfold iW at hs;omega);have h2:=jN.ak k2 s.boxes (by unfold iW at hs;omega);refine au (b:=iO.m) h0 ⟨0, ?_⟩;simp[ba,iO.m,iO.b,aa,h1,h2,setAt,ab]
theorem jQ.ak(h:jQ.k M)(l:List bq)(hl:mA l≤1048576):run M 121 [.c (boxes l),.c (boxes l)] []=some (.c (.bool true),[]):=by
 refine xz (M:=M) (F:=121) (n:=7) (f:=21) h.1 (by simp;unfold mA at hl;omega) (fun r hr=> ?_);obtain⟨x,hx,rfl⟩:=List.mem_map.1 hr;exact⟨rfl,rfl,j2.ak h.2 x (Nat.le_trans (ze hx) hl)⟩
theorem iP.ak(h:iP.k M)(s:a7)(hs:iW s≤1048576):run M 33 [.a (aq s),.a (aq s)] []=some (.c (.bool true),[]):=by
 obtain⟨h0,k1,k2⟩:=h;have h1:=fN.ak k1 s.gone (by unfold iW at hs;omega);have h2:=jQ.ak k2 s.boxes (by unfold iW at hs;omega);refine au (b:=iP.m) h0 ⟨0, ?_⟩;simp[ba,iP.m,iP.b,aa,h1,h2]
def Cr{α:Type}(p:α→Bool)(l:List α)(i:Nat):Bool:=match l[i]? with
 |some x=>p x
 |none=>false
theorem ow{α:Type}{p:α→Bool}{l:List α}{i:Nat}(h:i<l.length):Cr p l i=p l[i]:=by simp[Cr,h]
theorem rR{α:Type}(p:α→Bool)(l:List α):∀d i,i+d=l.length→nW (Cr p l) d i=((l.drop i).findIdx? p).map (·+i)
 |0,i,h=>by rw[nW,dY (by omega)];rfl
 |d+1,i,h=>by
  have hi:i<l.length:=by omega
  rw[nW,ow hi,bA hi,List.findIdx?_cons];split
  ·simp
  ·rw[rR p l d (i+1) (by omega),Option.map_map];congr 1;funext x;simp only[Function.comp];omega
theorem pz{α:Type}(p:α→Bool)(l:List α):dV (Cr p l) l.length=l.findIdx? p:=by
 rw[dV,rR p l _ _ (by omega)];simp
theorem xw{α:Type}(p:α→Bool)(l:List α):(dV (Cr p l) l.length).isSome=l.any p:=by
 rw[pz,List.findIdx?_isSome]
def named(l:List bq)(s:List UInt8):Option Nat:=l.findIdx? fun b=>decide (b.name=s)
def KU(st:a7)(s:List UInt8)(i:Nat)(x:Nat×Nat):St:={t:=[(1,.c (S s)),(2,.c (.ptr 2 x.1 0 0)),(5,.c (I i))],o:=[(2,⟨x.1,4,true,true,[aq st]⟩)],n:=x.2}
def Cc{β:Type}(r:Nat)(e:Nat)(E:β→St)(q:Option Nat)(m:β×Nat):Out×St:=match q with
 |none=>(.exit e,E m.1)
 |some k=>(.ret,{t:=[(r,.c (I k))],o:=[],n:=m.2})
theorem xo{β γ:Type}(n:Nat)(p:Nat→Bool){f:St→Option (Out×St)}(S:Nat→β→St)(r:Nat)(e:Nat)(E:γ→St)(z:γ)
  (h1:∀i,i<n→∀x,p i=false→∃y,f (S i x)=some (.normal,S (i+1) y)) (h2:∀i,i<n→∀x,p i=true→∃k,f (S i x)=some (.ret,{t:=[(r,.c (I i))],o:=[],n:=k}))
  (h3:∀x,∃y,f (S n x)=some (.exit e,E y)):∃g:β→γ×Nat,∀x,fx f (n+1) (S 0 x)=some (Cc r e E (dV p n) (g x)):=
 mU n p S (Cc r e E) (fun q m=>by cases q<;>simp[Cc]) h1 (fun i hi x c=>by
  obtain⟨k,hk⟩:=h2 i hi x c;exact⟨(z,k),hk⟩) (fun x=>by
  obtain⟨y,hy⟩:=h3 x;exact⟨(y,0),hy⟩)
def M7(st:a7)(s:List UInt8)(x:Nat×Nat):St:={t:=[(1,.c (S s)),(2,.c (.ptr 2 x.1 0 0)),(5,.c (I st.boxes.length)),(10,.c (.bool false))],o:=[(2,⟨x.1,4,true,true,[aq st]⟩)],n:=x.2}
theorem cv.ak(h:cv.k M)(st:a7)(s:List UInt8)(hb:st.boxes.length≤1048576):run M 226 [.a (aq st),.c (S s)] []=some (.c (I (dA (named st.boxes s))),[]):=by
 refine au (b:=cv.m) h ⟨st.boxes.length+1, ?_⟩;obtain⟨g,hr⟩:=xo (f:=cz (run M) (st.boxes.length+1) cv.l0) st.boxes.length (Cr (fun b=>decide (b.name=s)) st.boxes) (KU st s) 4 0 (M7 st s) (0,0)
  (fun i hi x c=>by
   obtain⟨v,x⟩:=x;rw[ow hi,decide_eq_false_iff_not] at c;have e5:=cA (i:=i) (by omega);simp only[aE];simp (maxSteps:=9^9) [cv.l0,KU,hi,c,af,e5])
  (fun i hi x c=>by
   obtain⟨v,x⟩:=x;rw[ow hi,decide_eq_true_eq] at c;simp (maxSteps:=9^9) [cv.l0,KU,hi,c,af])
  (fun x=>by
   obtain⟨v,x⟩:=x;simp only[aE];simp (maxSteps:=9^9) [cv.l0,KU,M7])
 rw[pz] at hr;unfold named;cases hm:st.boxes.findIdx? fun b=>decide (b.name=s) with
 |none=>
  simp[KU,hm,Cc,M7] at hr;simp (maxSteps:=9^9) [ba,cv.m,cv.b,aa,hr,dA]
 |some k=>
  simp[KU,hm,Cc] at hr;simp (maxSteps:=9^9) [ba,cv.m,cv.b,aa,hr,dA]
theorem fp.ak(h:fp.k M)(b:bq)(s:List UInt8):run M 271 [.a (af b),.c (.vp [S s] 0)] []=some (.c (.bool (decide (b.name=s))),[]):=by
 refine au (b:=fp.m) h ⟨0, ?_⟩;simp (maxSteps:=9^9) [ba,fp.m,fp.b,aa]
def DZ(l:List bq)(s:List UInt8)(i:Nat)(x:Nat):St:={t:=[(0,.c (boxes l)),(1,.c (.fn 271 [.vp [S s] 0])),(7,.c (I l.length)),(8,.c (I i))],o:=[],n:=x}
def J4(l:List bq)(s:List UInt8)(x:Nat):St:={t:=[(0,.c (boxes l)),(1,.c (.fn 271 [.vp [S s] 0])),(7,.c (I l.length)),(8,.c (I l.length)),(9,.c (.bool false))],o:=[],n:=x}
theorem dG.index(h:ay.k M)(h2:fp.k M)(l:List bq)(s:List UInt8)(hl:l.length≤1048576):
  run M 200 [.c (boxes l),.c (.fn 271 [.vp [S s] 0])] []=some (.c (I (dA (named l s))),[]):=by
 refine au (b:=ay.m) h ⟨l.length+1, ?_⟩;obtain⟨g,hr⟩:=xo (f:=cz (run M) (l.length+1) ay.l0) l.length (Cr (fun b=>decide (b.name=s)) l) (DZ l s) 4 0 (J4 l s) 0
  (fun i hi x c=>by
   have hm:=fp.ak h2 l[i] s;rw[ow hi] at c;rw[c] at hm;simp only[af] at hm;have e5:=cA (i:=i) (by omega);simp (maxSteps:=9^9) [ay.l0,DZ,hi,hm,af,e5])
  (fun i hi x c=>by
   have hm:=fp.ak h2 l[i] s;rw[ow hi] at c;rw[c] at hm;simp only[af] at hm;simp (maxSteps:=9^9) [ay.l0,DZ,hi,hm,af])
  (fun x=>by simp (maxSteps:=9^9) [ay.l0,DZ,J4])
 rw[pz] at hr;unfold named;cases hm:l.findIdx? fun b=>decide (b.name=s) with
 |none=>
  simp[DZ,hm,Cc,J4] at hr;simp (maxSteps:=9^9) [ba,ay.m,ay.b,aa,hr,dA]
 |some k=>
  simp[DZ,hm,Cc] at hr;simp (maxSteps:=9^9) [ba,ay.m,ay.b,aa,hr,dA]
theorem dG.ak(h:dG.k M)(st:a7)(s:List UInt8)(hb:st.boxes.length≤1048576):run M 228 [.a (aq st),.c (S s)] []=some (.c (I (dA (named st.boxes s))),[]):=by
 have h1:=dG.index h.2.1 h.2.2 st.boxes s hb;refine au (b:=dG.m) h.1 ⟨0, ?_⟩;simp (maxSteps:=9^9) [ba,dG.m,dG.b,aa,h1]
def tP(time:Int)(m:bj):Bool:=m.flags.any fun r=>decide (time<r.time)
def late(b:bq)(time:Int):Bool:=decide (time<b.time)||b.ae.any (tP time)
def KL(b:bq)(time:Int)(i:Nat)(x:Nat×Nat):St:={t:=[(1,.c (I time)),(2,.c (.ptr 2 x.1 0 0)),(10,.c (ae b.ae)),(11,.c (I b.ae.length)),(12,.c (I i))],o:=[(2,⟨x.1,7,true,true,[af b]⟩)],n:=x.2}
def MN(b:bq)(time:Int)(x:Nat×Nat):St:={t:=[(1,.c (I time)),(2,.c (.ptr 2 x.1 0 0)),(10,.c (ae b.ae)),(11,.c (I b.ae.length)),(12,.c (I b.ae.length)),(13,.c (.bool false))],o:=[(2,⟨x.1,7,true,true,[af b]⟩)],n:=x.2}
def B3(b:bq)(time:Int)(i:Nat)(l:List mJ)(k:Nat)(x:Nat×Nat):St:={t:=[(1,.c (I time)),(2,.c (.ptr 2 x.1 0 0)),(10,.c (ae b.ae)),(11,.c (I b.ae.length)),(12,.c (I i)),(17,.c (jf l)),(18,.c (I l.length)),(19,.c (I k))],o:=[(2,⟨x.1,7,true,true,[af b]⟩)],n:=x.2}
def HN(b:bq)(time:Int)(i:Nat)(l:List mJ)(x:Nat×Nat):St:={t:=[(1,.c (I time)),(2,.c (.ptr 2 x.1 0 0)),(10,.c (ae b.ae)),(11,.c (I b.ae.length)),(12,.c (I i)),(17,.c (jf l)),(18,.c (I l.length)),(19,.c (I l.length)),(20,.c (.bool false))],o:=[(2,⟨x.1,7,true,true,[af b]⟩)],n:=x.2}
theorem any_none{α:Type}{p:α→Bool}{l:List α}(h:l.any p=false):dV (Cr p l) l.length=none:=by
 have:=xw p l;rw[h] at this;simpa using this
theorem any_some{α:Type}{p:α→Bool}{l:List α}(h:l.any p=true):∃k,dV (Cr p l) l.length=some k:=by
 have:=xw p l;rw[h] at this;exact Option.isSome_iff_exists.1 this
theorem cG.inner(b:bq)(time:Int)(i K:Nat)(l:List mJ)(hl:l.length≤1048576):∃g:Nat×Nat→(Nat×Nat)×Nat,∀x,fx (cz (run M) K cG.l1) (l.length+1) (B3 b time i l 0 x)=some (lv 4 (.bool true) 2 (HN b time i l) (dV (Cr (fun r=>decide (time<r.time)) l) l.length) (g x)):=
 iz l.length (Cr (fun r=>decide (time<r.time)) l) (B3 b time i l) 4 (.bool true) 2 (HN b time i l)
  (fun i hi x c=>by
   obtain⟨v,x⟩:=x;rw[ow hi,decide_eq_false_iff_not] at c;have e5:=cA (i:=i) (by omega);simp only[aE];simp (maxSteps:=9^9) [cG.l1,setAt,B3,hi,c,aO,e5])
  (fun i hi x c=>by
   obtain⟨v,x⟩:=x;rw[ow hi,decide_eq_true_eq] at c;simp (maxSteps:=9^9) [cG.l1,setAt,B3,hi,c,aO])
  (fun x=>by
   obtain⟨v,x⟩:=x;simp only[aE];simp (maxSteps:=9^9) [cG.l1,B3,HN])
theorem cG.ak(h:cG.k M)(b:bq)(time:Int)(hb:b.ae.length≤1048576)(hf:∀m∈b.ae,m.flags.length≤1048576):run M 229 [.a (af b),.c (I time)] []=some (.c (.bool (late b time)),[]):=by
 refine au (b:=cG.m) h ⟨b.ae.length+1048577, ?_⟩;obtain⟨K,hK⟩:∃K,b.ae.length+1048577=K:=⟨_,rfl⟩
 rw[hK];obtain⟨g,hr⟩:=iz (f:=cz (run M) K cG.l0) b.ae.length (Cr (tP time) b.ae) (KL b time) 4 (.bool true) 0 (MN b time)
  (fun i hi x c=>by
   obtain⟨v,x⟩:=x;rw[ow hi,tP] at c;have e5:=cA (i:=i) (by omega);have hfl:=hf _ (ax hi);obtain⟨g,hr⟩:=cG.inner (M:=M) b time i K b.ae[i].flags hfl;rw[any_none c] at hr;have hr2:=fun x=>gz (hr x) (show b.ae[i].flags.length+1≤K by omega)
   simp[B3,HN,lv] at hr2;simp only[aE];simp (maxSteps:=9^9) [cG.l0,setAt,KL,hi,ah,e5,hr2])
  (fun i hi x c=>by
   obtain⟨v,x⟩:=x;rw[ow hi,tP] at c;have hfl:=hf _ (ax hi);obtain⟨g,hr⟩:=cG.inner (M:=M) b time i K b.ae[i].flags hfl;obtain⟨k,hk⟩:=any_some c;rw[hk] at hr;have hr2:=fun x=>gz (hr x) (show b.ae[i].flags.length+1≤K by omega)
   simp[B3,lv] at hr2;simp (maxSteps:=9^9) [cG.l0,setAt,KL,hi,ah,hr2])
  (fun x=>by
   obtain⟨v,x⟩:=x;simp only[aE];simp (maxSteps:=9^9) [cG.l0,KL,MN])
 have hr2:=fun x=>gz (hr x) (show b.ae.length+1≤K by omega)
 unfold late;cases c:b.ae.any (tP time)
 ·rw[any_none c] at hr2;simp[KL,MN,lv] at hr2;simp (maxSteps:=9^9) [ba,cG.m,cG.b,aa,hr2]
 ·obtain⟨k,hk⟩:=any_some c;rw[hk] at hr2;simp[KL,lv] at hr2;simp (maxSteps:=9^9) [ba,cG.m,cG.b,aa,hr2]
def DH(b:bq)(time:Int)(i:Nat)(x:Nat×Nat):St:={t:=[(1,.c (I time)),(2,.c (.ptr 2 x.1 0 0)),(5,.c (I i))],o:=[(2,⟨x.1,7,true,true,[af b]⟩)],n:=x.2}
def JA(b:bq)(time:Int)(x:Nat×Nat):St:={t:=[(1,.c (I time)),(2,.c (.ptr 2 x.1 0 0)),(5,.c (I b.ae.length)),(16,.c (.bool false))],o:=[(2,⟨x.1,7,true,true,[af b]⟩)],n:=x.2}
def BK(b:bq)(time:Int)(i:Nat)(k:Nat)(x:Nat×Nat):St:={t:=[(1,.c (I time)),(2,.c (.ptr 2 x.1 0 0)),(5,.c (I i)),(6,.c (I k))],o:=[(2,⟨x.1,7,true,true,[af b]⟩)],n:=x.2}
def Hp(b:bq)(time:Int)(i:Nat)(k:Nat)(x:Nat×Nat):St:={t:=[(1,.c (I time)),(2,.c (.ptr 2 x.1 0 0)),(5,.c (I i)),(6,.c (I k)),(27,.c (.bool false))],o:=[(2,⟨x.1,7,true,true,[af b]⟩)],n:=x.2}
theorem bO.inner(b:bq)(time:Int)(i K:Nat)(hi:i<b.ae.length)(hl:b.ae[i].flags.length≤1048576):∃g:Nat×Nat→(Nat×Nat)×Nat,∀x,fx (cz (run M) K bO.l1) (b.ae[i].flags.length+1) (BK b time i 0 x)=some (lv 4 (.bool false) 2 (Hp b time i b.ae[i].flags.length) (dV (Cr (fun r=>decide (time<r.time)) b.ae[i].flags) b.ae[i].flags.length) (g x)):=
 iz b.ae[i].flags.length (Cr (fun r=>decide (time<r.time)) b.ae[i].flags) (BK b time i) 4 (.bool false) 2 (Hp b time i b.ae[i].flags.length)
  (fun k hk x c=>by
   obtain⟨v,x⟩:=x;rw[ow hk,decide_eq_false_iff_not] at c;have e5:=cA (i:=k) (by omega);simp only[aE];simp (maxSteps:=9^9) [bO.l1,BK,hi,hk,c,aO,ah,e5])
  (fun k hk x c=>by
   obtain⟨v,x⟩:=x;rw[ow hk,decide_eq_true_eq] at c;simp (maxSteps:=9^9) [bO.l1,BK,hi,hk,c,aO,ah])
  (fun x=>by
   obtain⟨v,x⟩:=x;simp only[aE];simp (maxSteps:=9^9) [bO.l1,BK,Hp,hi,ah])
theorem bO.ak(h:bO.k M)(b:bq)(time:Int)(hb:b.ae.length≤1048576)(hf:∀m∈b.ae,m.flags.length≤1048576):run M 227 [.a (af b),.c (I time)] []=some (.c (.bool (!late b time)),[]):=by
 refine au (b:=bO.m) h ⟨b.ae.length+1048577, ?_⟩;obtain⟨K,hK⟩:∃K,b.ae.length+1048577=K:=⟨_,rfl⟩
 rw[hK];obtain⟨g,hr⟩:=iz (f:=cz (run M) K bO.l0) b.ae.length (Cr (tP time) b.ae) (DH b time) 4 (.bool false) 0 (JA b time)
  (fun i hi x c=>by
   obtain⟨v,x⟩:=x;rw[ow hi,tP] at c;have e5:=cA (i:=i) (by omega);have hfl:=hf _ (ax hi);obtain⟨g,hr⟩:=bO.inner (M:=M) b time i K hi hfl;rw[any_none c] at hr;have hr2:=fun x=>gz (hr x) (show b.ae[i].flags.length+1≤K by omega)
   simp[BK,Hp,lv] at hr2;simp only[aE];simp (maxSteps:=9^9) [bO.l0,DH,hi,e5,hr2])
  (fun i hi x c=>by
   obtain⟨v,x⟩:=x;rw[ow hi,tP] at c;have hfl:=hf _ (ax hi);obtain⟨g,hr⟩:=bO.inner (M:=M) b time i K hi hfl;obtain⟨k,hk⟩:=any_some c;rw[hk] at hr;have hr2:=fun x=>gz (hr x) (show b.ae[i].flags.length+1≤K by omega)
   simp[BK,lv] at hr2;simp (maxSteps:=9^9) [bO.l0,DH,hi,hr2])
  (fun x=>by
   obtain⟨v,x⟩:=x;simp only[aE];simp (maxSteps:=9^9) [bO.l0,DH,JA])
 have hr2:=fun x=>gz (hr x) (show b.ae.length+1≤K by omega)
 unfold late;by_cases c0:time<b.time
 ·simp (maxSteps:=9^9) [ba,bO.m,bO.b,aa,c0]
 cases c:b.ae.any (tP time)
 ·rw[any_none c] at hr2;simp[DH,JA,lv] at hr2;simp (maxSteps:=9^9) [ba,bO.m,bO.b,aa,hr2,c0]
 ·obtain⟨k,hk⟩:=any_some c;rw[hk] at hr2;simp[DH,lv] at hr2;simp (maxSteps:=9^9) [ba,bO.m,bO.b,aa,hr2,c0]
def bZ(b:bq):List Int:=b.ae.map (·.gid)
def seenAt(s:a7)(i:Nat):List Int:=(s.boxes.take i).flatMap bZ
theorem pL{s:a7}{i:Nat}(h:i<s.boxes.length):seenAt s (i+1)=seenAt s i++bZ s.boxes[i]:=by
 rw[seenAt,seenAt,List.take_succ_eq_append_getElem h,List.flatMap_append];simp
def rS(seen l:List Int)(k:Nat):Bool:=match l[k]? with
 |some g=>decide (g∈seen++l.take k)
 |none=>false
theorem qk{seen l:List Int}{k:Nat}(h:k<l.length):rS seen l k=decide (l[k]∈seen++l.take k):=by simp[rS,h]
def uM(seen l:List Int):Bool:=(dV (rS seen l) l.length).isSome
def uU(s:a7)(i:Nat):Bool:=match s.boxes[i]? with
 |some b=> !fA b||(decide (0<i)&&match s.boxes[i-1]? with|some p=>decide (b.gid≤p.gid)|none=>false)|| !decide (dA (named s.boxes b.name)=(i:Int))||decide (b.gid∈s.gone)||late b s.time
 |none=>false
theorem ov{s:a7}{i:Nat}(h:i<s.boxes.length):uU s i=(!fA s.boxes[i]||(decide (0<i)&&decide (s.boxes[i].gid≤s.boxes[i-1].gid))|| !decide (dA (named s.boxes s.boxes[i].name)=(i:Int))||
  decide (s.boxes[i].gid∈s.gone)||late s.boxes[i] s.time):=by simp[uU,h,(show i-1<s.boxes.length by omega)]
def qt(s:a7)(i:Nat):Bool:=uU s i||match s.boxes[i]? with
 |some b=>uM (seenAt s i) (bZ b)
 |none=>false
theorem n8{s:a7}{i:Nat}(h:i<s.boxes.length):qt s i=(uU s i||uM (seenAt s i) (bZ s.boxes[i])):=by simp[qt,h]
def a8(s:a7):Bool:=kx 1 s.eJ 2&&kx 0 s.time 100000&&decide (s.boxes.length≤5)&&lV s.gone 20&&(dV (qt s) s.boxes.length).isNone
structure iw (b:bq):Prop where
 m:b.ae.length≤1048576
 g:b.gone.length≤1048576
 n:b.name.length≤1048576
 f:∀m∈b.ae,m.flags.length≤1048576
structure gr (s:a7):Prop where
 b:s.boxes.length≤1048576
 g:s.gone.length≤1048576
 i:∀b∈s.boxes,iw b
 s:(s.boxes.flatMap bZ).length≤1048576
theorem se{s:a7}(h:gr s)(i:Nat):(seenAt s i).length≤1048576:=by
 refine Nat.le_trans ?_ h.s
 conv=>rhs;rw[←da i s.boxes]
 rw[List.flatMap_append,aD];exact Nat.le_add_right _ _
def CO(s:a7)(seen:List Int)(x:Nat×Nat×Nat):List (Nat×Ob):=[(1,⟨x.1,4,true,true,[aq s]⟩),(30,⟨x.2.1,1,true,false,aA seen⟩)]
def zi(s:a7)(i:Nat)(x:Nat×Nat×Nat):St:={t:=[(1,.c (.ptr 1 x.1 0 0)),(3,.c (.row 30 x.2.1 0 (seenAt s i).length)),(32,.c (boxes s.boxes)),(33,.c (I s.boxes.length)),(34,.c (I i))],o:=CO s (seenAt s i) x,n:=x.2.2}
def JE(s:a7)(x:Nat×Nat×Nat):St:={t:=[(1,.c (.ptr 1 x.1 0 0)),(3,.c (.row 30 x.2.1 0 (seenAt s s.boxes.length).length)),(32,.c (boxes s.boxes)),(33,.c (I s.boxes.length)),(34,.c (I s.boxes.length)),(35,.c (.bool false))],o:=CO s (seenAt s s.boxes.length) x,n:=x.2.2}
def BS(s:a7)(b:bq)(seen:List Int)(i k:Nat)(x:Nat×Nat×Nat):St:={t:=[(1,.c (.ptr 1 x.1 0 0)),(3,.c (.row 30 x.2.1 0 (seen.length+k))),(32,.c (boxes s.boxes)),(33,.c (I s.boxes.length)),(34,.c (I i)),(80,.c (ae b.ae)),(81,.c (I b.ae.length)),(82,.c (I k))],o:=CO s (seen++(bZ b).take k) x,n:=x.2.2}
def Hs(s:a7)(b:bq)(seen:List Int)(i:Nat)(x:Nat×Nat×Nat):St:={t:=[(1,.c (.ptr 1 x.1 0 0)),(3,.c (.row 30 x.2.1 0 (seen.length+b.ae.length))),(32,.c (boxes s.boxes)),(33,.c (I s.boxes.length)),(34,.c (I i)),(80,.c (ae b.ae)),(81,.c (I b.ae.length)),(82,.c (I b.ae.length)),(83,.c (.bool false))],o:=CO s (seen++bZ b) x,n:=x.2.2}
theorem jv(b:bq):(bZ b).length=b.ae.length:=by simp[bZ]
theorem pa(b:bq)(k:Nat)(h:k<(bZ b).length):(bZ b)[k]=(b.ae[k]'(by simpa [bZ] using h)).gid:=by simp[bZ]
theorem aK.inner(hin:aI.k M)(s:a7)(b:bq)(seen:List Int)(i K:Nat)(hl:b.ae.length≤1048576)(hs:seen.length≤1048576):
  ∃g:Nat×Nat×Nat→(Nat×Nat×Nat)×Nat,∀x,fx (cz (run M) K aK.l1) (b.ae.length+1) (BS s b seen i 0 x)=some (lv 2 (.bool false) 2 (Hs s b seen i) (dV (rS seen (bZ b)) b.ae.length) (g x)):=
 iz b.ae.length (rS seen (bZ b)) (BS s b seen i) 2 (.bool false) 2 (Hs s b seen i)
  (fun k hk x c=>by
   obtain⟨v,w,x⟩:=x;have hk':k<(bZ b).length:=by rw[jv];exact hk
   rw[qk hk'] at c;have hlen:(seen++(bZ b).take k).length=seen.length+k:=by rw[aD,gd,Nat.min_eq_left (by omega)]
   have h1:=aI.ak hin (seen++(bZ b).take k) (bZ b)[k] (by rw[hlen];omega);rw[c] at h1;rw[pa] at h1;simp only[ints] at h1;have e5:=cA (i:=k) (by omega);have e6:seen.length+(k+1)≤4294967296:=by omega
   have e7:seen++(bZ b).take (k+1)=(seen++(bZ b).take k)++[b.ae[k].gid]:=by rw[List.take_succ_eq_append_getElem hk',pa,b4]
   have e8:aA ((seen++(bZ b).take k)++[b.ae[k].gid])=aA (seen++(bZ b).take k)++[[I b.ae[k].gid]]:=by simp[aA]
   have e9:(aA (seen++(bZ b).take k)).length=seen.length+k:=by simp only[aA,eM];exact hlen
   simp only[aE,BS,CO,e7,e8];generalize aA (seen++(bZ b).take k)=rr at*;simp (maxSteps:=9^9) [aK.l1,setAt,hk,h1,ah,e5,e6,e9,ab,Nat.add_assoc])
  (fun k hk x c=>by
   obtain⟨v,w,x⟩:=x;have hk':k<(bZ b).length:=by rw[jv];exact hk
   rw[qk hk'] at c;have hlen:(seen++(bZ b).take k).length=seen.length+k:=by rw[aD,gd,Nat.min_eq_left (by omega)]
   have h1:=aI.ak hin (seen++(bZ b).take k) (bZ b)[k] (by rw[hlen];omega);rw[c] at h1;rw[pa] at h1;simp only[ints] at h1;have e9:(aA (seen++(bZ b).take k)).length=seen.length+k:=by simp only[aA,eM];exact hlen
   simp only[BS,CO];generalize aA (seen++(bZ b).take k)=rr at*;simp (maxSteps:=9^9) [aK.l1,setAt,hk,h1,ah,e9,ab])
  (fun x=>by
   obtain⟨v,w,x⟩:=x;have e7:(bZ b).take b.ae.length=bZ b:=ab (by rw[jv];omega);simp only[aE,BS,Hs,CO,e7];simp (maxSteps:=9^9) [aK.l1])
theorem iw.ok{b:bq}(h:iw b):b.ae.length≤1048576∧b.gone.length≤4611686018427387904∧b.name.length≤4611686018427387904∧∀m∈b.ae,m.flags.length≤1048576:=⟨h.m,by have:=h.g;omega,by have:=h.n;omega,h.f⟩
structure aK.ks (M:Nat→Option Body):Prop where
 box:bC.k M
 ID:aI.k M
 La:dG.k M
 Li:cG.k M
theorem aK.mh(h:aK.ks M)(s:a7)(hs:gr s)(K:Nat)(hK:2000000≤K)(i:Nat)(hi:i<s.boxes.length)(x:Nat×Nat×Nat)(c:qt s i=false):
  ∃y,cz (run M) K aK.l0 (zi s i x)=some (.normal,zi s (i+1) y):=by
 have hb:=hs.i _ (ax hi);have h1:=bC.ak h.box s.boxes[i] hb.ok.1 hb.ok.2.1 hb.ok.2.2.1 hb.ok.2.2.2;have h2:=dG.ak h.La s s.boxes[i].name hs.b;have h3:=aI.ak h.ID s.gone s.boxes[i].gid (by have:=hs.g;omega);have h4:=cG.ak h.Li s.boxes[i] s.time hb.m hb.f;have hsl:=se hs i;obtain⟨g,hr⟩:=aK.inner h.ID s s.boxes[i] (seenAt s i) i K hb.m hsl;have hr2:=fun x=>gz (hr x) (show s.boxes[i].ae.length+1≤K by have:=hb.m;omega)
 rw[n8 hi,ov hi] at c;simp only[fT,Bool.and_eq_false_iff,Bool.not_eq_false',decide_eq_false_iff_not,decide_eq_true_eq] at c;obtain⟨⟨⟨⟨⟨c1,c2⟩,c3⟩,c4⟩,c5⟩,c6⟩:=c;have e5:IntKind.i64.wrap ((i:Int)+1)=(i:Int)+1:=wrap_i64 (by have:=hs.b;omega) (by have:=hs.b;omega);rw[c1] at h1;rw[c3] at h2;rw[decide_eq_false c4] at h3;rw[c5] at h4;have q:dV (rS (seenAt s i) (bZ s.boxes[i])) s.boxes[i].ae.length=none:=by
  unfold uM at c6;rw[jv] at c6;simpa using c6
 rw[q] at hr2;obtain⟨v,w,x⟩:=x;simp only[af,aq] at h1 h2 h4;simp only[ints] at h3;have hz:aA (seenAt s i++bZ s.boxes[i])=aA (seenAt s i)++aA (bZ s.boxes[i]):=by simp[aA]
 simp[BS,Hs,CO,lv] at hr2;simp only[zi,CO,pL hi,aE];have hgl:=jv s.boxes[i];by_cases c7:0<i
 ·have e6:IntKind.i64.wrap ((i:Int)-1)=((i-1:Nat):Int):=by rw[wrap_i64 (by have:=hs.b;omega) (by have:=hs.b;omega)];omega
  have c2':¬s.boxes[i].gid≤s.boxes[i-1].gid:=by
   rcases c2 with c2|c2
   ·exact absurd c7 c2
   ·exact c2
  simp (maxSteps:=9^9) [aK.l0,aa,setAt,hi,h1,h2,h3,h4,c7,c2',e5,e6,hr2,hgl,af,(show i-1<s.boxes.length by omega)]
 ·simp (maxSteps:=9^9) [aK.l0,aa,setAt,hi,h1,h2,h3,h4,c7,e5,hr2,hgl,af]
theorem aK.bad(h:aK.ks M)(s:a7)(hs:gr s)(K:Nat)(hK:2000000≤K)(i:Nat)(hi:i<s.boxes.length)(x:Nat×Nat×Nat)(c:qt s i=true):
  ∃k,cz (run M) K aK.l0 (zi s i x)=some (.ret,{t:=[(2,.c (.bool false))],o:=[],n:=k}):=by
 have hb:=hs.i _ (ax hi);have h1:=bC.ak h.box s.boxes[i] hb.ok.1 hb.ok.2.1 hb.ok.2.2.1 hb.ok.2.2.2;have h2:=dG.ak h.La s s.boxes[i].name hs.b;have h3:=aI.ak h.ID s.gone s.boxes[i].gid (by have:=hs.g;omega);have h4:=cG.ak h.Li s.boxes[i] s.time hb.m hb.f;have hsl:=se hs i;obtain⟨g,hr⟩:=aK.inner h.ID s s.boxes[i] (seenAt s i) i K hb.m hsl;have hr2:=fun x=>gz (hr x) (show s.boxes[i].ae.length+1≤K by have:=hb.m;omega)
 rw[n8 hi,ov hi] at c;obtain⟨v,w,x⟩:=x;simp only[af,aq] at h1 h2 h4;simp only[ints] at h3;simp only[zi,CO];cases c1:fA s.boxes[i]
 ·rw[c1] at h1;simp (maxSteps:=9^9) [aK.l0,aa,setAt,hi,h1,af]
 rw[c1] at h1;have tail:∀(hp:¬0<i∨¬s.boxes[i].gid≤s.boxes[i-1].gid),∃k,cz (run M) K aK.l0 {t:=[(1,.c (.ptr 1 v 0 0)),(3,.c (.row 30 w 0 (seenAt s i).length)),(32,.c (boxes s.boxes)),(33,.c (I s.boxes.length)),(34,.c (I i))],o:=[(1,⟨v,4,true,true,[aq s]⟩),(30,⟨w,1,true,false,aA (seenAt s i)⟩)],n:=x}=some (.ret,{t:=[(2,.c (.bool false))],o:=[],n:=k}):=by
  intro hp;have hpp:(decide (0<i)&&decide (s.boxes[i].gid≤s.boxes[i-1].gid))=false:=by
   rcases hp with hp|hp<;>simp[hp]
  have key:(∀(Q:Prop),(0<i→¬s.boxes[i].gid≤s.boxes[i-1].gid→Q)→(¬0<i→Q)→Q):=by
   intro Q q1 q2;by_cases c7:0<i
   ·rcases hp with hp|hp
    ·exact absurd c7 hp
    ·exact q1 c7 hp
   ·exact q2 c7
  have e6:0<i→IntKind.i64.wrap ((i:Int)-1)=((i-1:Nat):Int):=fun c7=>by rw[wrap_i64 (by have:=hs.b;omega) (by have:=hs.b;omega)];omega
  have hi1:i-1<s.boxes.length:=by omega
  by_cases c3:dA (named s.boxes s.boxes[i].name)=(i:Int);rotate_left
  ·exact key _ (fun c7 c2=>by simp (maxSteps:=9^9) [aK.l0,aa,setAt,hi,h1,h2,c7,c2,c3,e6 c7,af,hi1]) (fun c7=>by simp (maxSteps:=9^9) [aK.l0,aa,setAt,hi,h1,h2,c7,c3,af])
  rw[c3] at h2;by_cases c4:s.boxes[i].gid∈s.gone
  ·rw[decide_eq_true c4] at h3;exact key _ (fun c7 c2=>by simp (maxSteps:=9^9) [aK.l0,aa,setAt,hi,h1,h2,h3,c7,c2,e6 c7,af,hi1]) (fun c7=>by simp (maxSteps:=9^9) [aK.l0,aa,setAt,hi,h1,h2,h3,c7,af])
  rw[decide_eq_false c4] at h3;cases c5:late s.boxes[i] s.time;rotate_left
  ·rw[c5] at h4;exact key _ (fun c7 c2=>by simp (maxSteps:=9^9) [aK.l0,aa,setAt,hi,h1,h2,h3,h4,c7,c2,e6 c7,af,hi1]) (fun c7=>by simp (maxSteps:=9^9) [aK.l0,aa,setAt,hi,h1,h2,h3,h4,c7,af])
  rw[c5] at h4;have c6:uM (seenAt s i) (bZ s.boxes[i])=true:=by
   rw[c1,hpp,c3,c5] at c;simpa [c4] using c
  obtain⟨k,hk⟩:∃k,dV (rS (seenAt s i) (bZ s.boxes[i])) s.boxes[i].ae.length=some k:=by
   unfold uM at c6;rw[jv] at c6;exact Option.isSome_iff_exists.1 c6
  rw[hk] at hr2;simp[BS,CO,lv] at hr2;have hgl:=jv s.boxes[i];exact key _ (fun c7 c2=>by simp (maxSteps:=9^9) [aK.l0,aa,setAt,hi,h1,h2,h3,h4,c7,c2,e6 c7,hr2,af,hi1]) (fun c7=>by simp (maxSteps:=9^9) [aK.l0,aa,setAt,hi,h1,h2,h3,h4,c7,hr2,af])
 by_cases c7:0<i
 ·by_cases c2:s.boxes[i].gid≤s.boxes[i-1].gid
  ·have e6:IntKind.i64.wrap ((i:Int)-1)=((i-1:Nat):Int):=by rw[wrap_i64 (by have:=hs.b;omega) (by have:=hs.b;omega)];omega
   simp (maxSteps:=9^9) [aK.l0,aa,setAt,hi,h1,c7,c2,e6,af,(show i-1<s.boxes.length by omega)]
  ·exact tail (.inr c2)
 ·exact tail (.inl c7)
theorem aK.ak(h:aK.k M)(s:a7)(hs:gr s):run M 150 [.a (aq s)] []=some (.c (.bool (a8 s)),[]):=by
 obtain⟨h0,k1,k2,k3,k4,k5,k6⟩:=h;have h1:=bP.kx k2 s.eJ 1 2;have h2:=bP.kx k2 s.time 0 100000;have h3:=dg.ak k4 s.gone 20 (by have:=hs.g;omega);refine au (b:=aK.m) h0 ⟨4000000, ?_⟩;obtain⟨K,hK⟩:∃K,4000000=K:=⟨_,rfl⟩
 rw[hK];obtain⟨g,hr⟩:=iz (f:=cz (run M) K aK.l0) s.boxes.length (qt s) (zi s) 2 (.bool false) 0 (JE s)
  (fun i hi x c=>aK.mh ⟨k1,k3,k5,k6⟩ s hs K (by omega) i hi x c)
  (fun i hi x c=>aK.bad ⟨k1,k3,k5,k6⟩ s hs K (by omega) i hi x c)
  (fun x=>by
   obtain⟨v,w,x⟩:=x;simp only[aE];simp (maxSteps:=9^9) [aK.l0,aa,zi,JE,CO])
 have hr2:=fun x=>gz (hr x) (show s.boxes.length+1≤K by have:=hs.b;omega)
 cases c1:kx 1 s.eJ 2
 ·simp (maxSteps:=9^9) [ba,aK.m,aK.b,aa,h1,c1,a8]
 cases c2:kx 0 s.time 100000
 ·simp (maxSteps:=9^9) [ba,aK.m,aK.b,aa,h1,h2,c1,c2,a8]
 by_cases c3:5<s.boxes.length
 ·have c3':¬s.boxes.length≤5:=by omega
  have ci:(5:Int)<s.boxes.length:=by omega
  simp (maxSteps:=9^9) [ba,aK.m,aK.b,aa,h1,h2,c1,c2,c3',ci,a8]
 have c3':s.boxes.length≤5:=by omega
 have ci:¬(5:Int)<s.boxes.length:=by omega
 cases c4:lV s.gone 20
 ·simp (maxSteps:=9^9) [ba,aK.m,aK.b,aa,h1,h2,h3,c1,c2,ci,c4,a8]
 have hz:seenAt s 0=[]:=by simp[seenAt]
 cases q:dV (qt s) s.boxes.length with
 |none=>
  simp[zi,JE,CO,q,lv,hz,aA] at hr2;simp (maxSteps:=9^9) [ba,aK.m,aK.b,aa,h1,h2,h3,c1,c2,c3',ci,c4,hr2,a8,q]
 |some k=>
  simp[zi,CO,q,lv,hz,aA] at hr2;simp (maxSteps:=9^9) [ba,aK.m,aK.b,aa,h1,h2,h3,c1,c2,c3',ci,c4,hr2,a8,q]
def JC(s:a7)(seen:List Int)(x:Nat×Nat×Nat):List (Nat×Ob):=[(1,⟨x.1,4,true,true,[aq s]⟩),(29,⟨x.2.1,1,true,false,aA seen⟩)]
def zh(s:a7)(i:Nat)(x:Nat×Nat×Nat):St:={t:=[(1,.c (.ptr 1 x.1 0 0)),(3,.c (.row 29 x.2.1 0 (seenAt s i).length)),(4,.c (I i))],o:=JC s (seenAt s i) x,n:=x.2.2}
def JD(s:a7)(x:Nat×Nat×Nat):St:={t:=[(1,.c (.ptr 1 x.1 0 0)),(3,.c (.row 29 x.2.1 0 (seenAt s s.boxes.length).length)),(4,.c (I s.boxes.length)),(34,.c (.bool false))],o:=JC s (seenAt s s.boxes.length) x,n:=x.2.2}
def BO(s:a7)(b:bq)(seen:List Int)(x:Nat×Nat×Nat×Nat):List (Nat×Ob):=[(1,⟨x.1,4,true,true,[aq s]⟩),(5,⟨x.2.2.1,7,true,true,[af b]⟩),(29,⟨x.2.1,1,true,false,aA seen⟩)]
def BN(s:a7)(b:bq)(seen:List Int)(i k:Nat)(x:Nat×Nat×Nat×Nat):St:={t:=[(1,.c (.ptr 1 x.1 0 0)),(3,.c (.row 29 x.2.1 0 (seen.length+k))),(4,.c (I i)),(5,.c (.ptr 5 x.2.2.1 0 0)),(6,.c (I k))],o:=BO s b (seen++(bZ b).take k) x,n:=x.2.2.2}
def Hr(s:a7)(b:bq)(seen:List Int)(i:Nat)(x:Nat×Nat×Nat×Nat):St:={t:=[(1,.c (.ptr 1 x.1 0 0)),(3,.c (.row 29 x.2.1 0 (seen.length+b.ae.length))),(4,.c (I i)),(5,.c (.ptr 5 x.2.2.1 0 0)),(6,.c (I b.ae.length)),(87,.c (.bool false))],o:=BO s b (seen++bZ b) x,n:=x.2.2.2}
theorem aJ.inner(hin:bf.k M)(s:a7)(b:bq)(seen:List Int)(i K:Nat)(hl:b.ae.length≤1048576)(hs:seen.length≤1048576):
  ∃g:Nat×Nat×Nat×Nat→(Nat×Nat×Nat×Nat)×Nat,∀x,fx (cz (run M) K aJ.l1) (b.ae.length+1) (BN s b seen i 0 x)=some (lv 2 (.bool false) 2 (Hr s b seen i) (dV (rS seen (bZ b)) b.ae.length) (g x)):=
 iz b.ae.length (rS seen (bZ b)) (BN s b seen i) 2 (.bool false) 2 (Hr s b seen i)
  (fun k hk x c=>by
   obtain⟨v,w,z,x⟩:=x;have hk':k<(bZ b).length:=by rw[jv];exact hk
   rw[qk hk'] at c;have hlen:(seen++(bZ b).take k).length=seen.length+k:=by rw[aD,gd,Nat.min_eq_left (by omega)]
   have h1:=bf.ak hin (seen++(bZ b).take k) (bZ b)[k] (by rw[hlen];omega);rw[c] at h1;rw[pa] at h1;simp only[ints] at h1;have e5:=cA (i:=k) (by omega);have e6:seen.length+(k+1)≤4294967296:=by omega
   have e7:seen++(bZ b).take (k+1)=(seen++(bZ b).take k)++[b.ae[k].gid]:=by rw[List.take_succ_eq_append_getElem hk',pa,b4]
   have e8:aA ((seen++(bZ b).take k)++[b.ae[k].gid])=aA (seen++(bZ b).take k)++[[I b.ae[k].gid]]:=by simp[aA]
   have e9:(aA (seen++(bZ b).take k)).length=seen.length+k:=by simp only[aA,eM];exact hlen
   simp only[aE,BN,BO,e7,e8];generalize aA (seen++(bZ b).take k)=rr at*;simp (maxSteps:=9^9) [aJ.l1,hk,h1,ah,e5,e6,e9,ab,Nat.add_assoc];exact⟨_,_,_,⟨rfl,rfl,rfl⟩,rfl,rfl,rfl⟩)
  (fun k hk x c=>by
   obtain⟨v,w,z,x⟩:=x;have hk':k<(bZ b).length:=by rw[jv];exact hk
   rw[qk hk'] at c;have hlen:(seen++(bZ b).take k).length=seen.length+k:=by rw[aD,gd,Nat.min_eq_left (by omega)]
   have h1:=bf.ak hin (seen++(bZ b).take k) (bZ b)[k] (by rw[hlen];omega);rw[c] at h1;rw[pa] at h1;simp only[ints] at h1;have e9:(aA (seen++(bZ b).take k)).length=seen.length+k:=by simp only[aA,eM];exact hlen
   simp only[BN,BO];generalize aA (seen++(bZ b).take k)=rr at*;simp (maxSteps:=9^9) [aJ.l1,hk,h1,ah,e9,ab])
  (fun x=>by
   obtain⟨v,w,z,x⟩:=x;have e7:(bZ b).take b.ae.length=bZ b:=ab (by rw[jv];omega);simp only[aE,BN,Hr,BO,e7];simp (maxSteps:=9^9) [aJ.l1];exact⟨_,_,_,⟨rfl,rfl,rfl⟩,rfl,rfl,rfl⟩)
structure aJ.ks (M:Nat→Option Body):Prop where
 box:br.k M
 ID:bf.k M
 La:cv.k M
 Li:bO.k M
theorem aJ.mh(h:aJ.ks M)(s:a7)(hs:gr s)(K:Nat)(hK:2000000≤K)(i:Nat)(hi:i<s.boxes.length)(x:Nat×Nat×Nat)(c:qt s i=false):
  ∃y,cz (run M) K aJ.l0 (zh s i x)=some (.normal,zh s (i+1) y):=by
 have hb:=hs.i _ (ax hi);have h1:=br.ak h.box s.boxes[i] hb.ok.1 hb.ok.2.1 hb.ok.2.2.1 hb.ok.2.2.2;have h2:=cv.ak h.La s s.boxes[i].name hs.b;have h3:=bf.ak h.ID s.gone s.boxes[i].gid (by have:=hs.g;omega);have h4:=bO.ak h.Li s.boxes[i] s.time hb.m hb.f;have hsl:=se hs i;obtain⟨g,hr⟩:=aJ.inner h.ID s s.boxes[i] (seenAt s i) i K hb.m hsl;have hr2:=fun x=>gz (hr x) (show s.boxes[i].ae.length+1≤K by have:=hb.m;omega)
 rw[n8 hi,ov hi] at c;simp only[fT,Bool.and_eq_false_iff,Bool.not_eq_false',decide_eq_false_iff_not,decide_eq_true_eq] at c;obtain⟨⟨⟨⟨⟨c1,c2⟩,c3⟩,c4⟩,c5⟩,c6⟩:=c;have e5:IntKind.i64.wrap ((i:Int)+1)=(i:Int)+1:=wrap_i64 (by have:=hs.b;omega) (by have:=hs.b;omega);rw[c1] at h1;rw[c3] at h2;rw[decide_eq_false c4] at h3;rw[c5] at h4;have q:dV (rS (seenAt s i) (bZ s.boxes[i])) s.boxes[i].ae.length=none:=by
  unfold uM at c6;rw[jv] at c6;simpa using c6
 rw[q] at hr2;obtain⟨v,w,x⟩:=x;simp only[af,aq] at h1 h2 h4;simp only[ints] at h3;have hz:aA (seenAt s i++bZ s.boxes[i])=aA (seenAt s i)++aA (bZ s.boxes[i]):=by simp[aA]
 simp[BN,Hr,BO,lv] at hr2;simp only[zh,JC,pL hi,aE];have hgl:=jv s.boxes[i];by_cases c7:0<i
 ·have e6:IntKind.i64.wrap ((i:Int)-1)=((i-1:Nat):Int):=by rw[wrap_i64 (by have:=hs.b;omega) (by have:=hs.b;omega)];omega
  have c2':¬s.boxes[i].gid≤s.boxes[i-1].gid:=by
   rcases c2 with c2|c2
   ·exact absurd c7 c2
   ·exact c2
  simp (maxSteps:=9^9) [aJ.l0,aa,setAt,hi,h1,h2,h3,h4,c7,c2',e5,e6,hr2,hgl,af,(show i-1<s.boxes.length by omega)]
 ·simp (maxSteps:=9^9) [aJ.l0,aa,setAt,hi,h1,h2,h3,h4,c7,e5,hr2,hgl,af]
theorem aJ.bad(h:aJ.ks M)(s:a7)(hs:gr s)(K:Nat)(hK:2000000≤K)(i:Nat)(hi:i<s.boxes.length)(x:Nat×Nat×Nat)(c:qt s i=true):
  ∃k,cz (run M) K aJ.l0 (zh s i x)=some (.ret,{t:=[(2,.c (.bool false))],o:=[],n:=k}):=by
 have hb:=hs.i _ (ax hi);have h1:=br.ak h.box s.boxes[i] hb.ok.1 hb.ok.2.1 hb.ok.2.2.1 hb.ok.2.2.2;have h2:=cv.ak h.La s s.boxes[i].name hs.b;have h3:=bf.ak h.ID s.gone s.boxes[i].gid (by have:=hs.g;omega);have h4:=bO.ak h.Li s.boxes[i] s.time hb.m hb.f;have hsl:=se hs i;obtain⟨g,hr⟩:=aJ.inner h.ID s s.boxes[i] (seenAt s i) i K hb.m hsl;have hr2:=fun x=>gz (hr x) (show s.boxes[i].ae.length+1≤K by have:=hb.m;omega)
 rw[n8 hi,ov hi] at c;obtain⟨v,w,x⟩:=x;simp only[af,aq] at h1 h2 h4;simp only[ints] at h3;simp only[zh,JC];cases c1:fA s.boxes[i]
 ·rw[c1] at h1;simp (maxSteps:=9^9) [aJ.l0,aa,setAt,hi,h1,af]
 rw[c1] at h1;have tail:∀(hp:¬0<i∨¬s.boxes[i].gid≤s.boxes[i-1].gid),∃k,cz (run M) K aJ.l0 {t:=[(1,.c (.ptr 1 v 0 0)),(3,.c (.row 29 w 0 (seenAt s i).length)),(4,.c (I i))],o:=[(1,⟨v,4,true,true,[aq s]⟩),(29,⟨w,1,true,false,aA (seenAt s i)⟩)],n:=x}=some (.ret,{t:=[(2,.c (.bool false))],o:=[],n:=k}):=by
  intro hp;have hpp:(decide (0<i)&&decide (s.boxes[i].gid≤s.boxes[i-1].gid))=false:=by
   rcases hp with hp|hp<;>simp[hp]
  have key:(∀(Q:Prop),(0<i→¬s.boxes[i].gid≤s.boxes[i-1].gid→Q)→(¬0<i→Q)→Q):=by
   intro Q q1 q2;by_cases c7:0<i
   ·rcases hp with hp|hp
    ·exact absurd c7 hp
    ·exact q1 c7 hp
   ·exact q2 c7
  have e6:0<i→IntKind.i64.wrap ((i:Int)-1)=((i-1:Nat):Int):=fun c7=>by rw[wrap_i64 (by have:=hs.b;omega) (by have:=hs.b;omega)];omega
  have hi1:i-1<s.boxes.length:=by omega
  by_cases c3:dA (named s.boxes s.boxes[i].name)=(i:Int);rotate_left
  ·exact key _ (fun c7 c2=>by simp (maxSteps:=9^9) [aJ.l0,aa,setAt,hi,h1,h2,c7,c2,c3,e6 c7,af,hi1]) (fun c7=>by simp (maxSteps:=9^9) [aJ.l0,aa,setAt,hi,h1,h2,c7,c3,af])
  rw[c3] at h2;by_cases c4:s.boxes[i].gid∈s.gone
  ·rw[decide_eq_true c4] at h3;exact key _ (fun c7 c2=>by simp (maxSteps:=9^9) [aJ.l0,aa,setAt,hi,h1,h2,h3,c7,c2,e6 c7,af,hi1]) (fun c7=>by simp (maxSteps:=9^9) [aJ.l0,aa,setAt,hi,h1,h2,h3,c7,af])
  rw[decide_eq_false c4] at h3;cases c5:late s.boxes[i] s.time;rotate_left
  ·rw[c5] at h4;exact key _ (fun c7 c2=>by simp (maxSteps:=9^9) [aJ.l0,aa,setAt,hi,h1,h2,h3,h4,c7,c2,e6 c7,af,hi1]) (fun c7=>by simp (maxSteps:=9^9) [aJ.l0,aa,setAt,hi,h1,h2,h3,h4,c7,af])
  rw[c5] at h4;have c6:uM (seenAt s i) (bZ s.boxes[i])=true:=by
   rw[c1,hpp,c3,c5] at c;simpa [c4] using c
  obtain⟨k,hk⟩:∃k,dV (rS (seenAt s i) (bZ s.boxes[i])) s.boxes[i].ae.length=some k:=by
   unfold uM at c6;rw[jv] at c6;exact Option.isSome_iff_exists.1 c6
  rw[hk] at hr2;simp[BN,BO,lv] at hr2;have hgl:=jv s.boxes[i];exact key _ (fun c7 c2=>by simp (maxSteps:=9^9) [aJ.l0,aa,setAt,hi,h1,h2,h3,h4,c7,c2,e6 c7,hr2,af,hi1]) (fun c7=>by simp (maxSteps:=9^9) [aJ.l0,aa,setAt,hi,h1,h2,h3,h4,c7,hr2,af])
 by_cases c7:0<i
 ·by_cases c2:s.boxes[i].gid≤s.boxes[i-1].gid
  ·have e6:IntKind.i64.wrap ((i:Int)-1)=((i-1:Nat):Int):=by rw[wrap_i64 (by have:=hs.b;omega) (by have:=hs.b;omega)];omega
   simp (maxSteps:=9^9) [aJ.l0,aa,setAt,hi,h1,c7,c2,e6,af,(show i-1<s.boxes.length by omega)]
  ·exact tail (.inr c2)
 ·exact tail (.inl c7)
theorem aJ.ak(h:aJ.k M)(s:a7)(hs:gr s):run M 149 [.a (aq s)] []=some (.c (.bool (a8 s)),[]):=by
 obtain⟨h0,k1,k2,k3,k4,k5,k6⟩:=h;have h1:=bE.kx k2 s.eJ 1 2;have h2:=bE.kx k2 s.time 0 100000;have h3:=cq.ak k4 s.gone 20 (by have:=hs.g;omega);refine au (b:=aJ.m) h0 ⟨4000000, ?_⟩;obtain⟨K,hK⟩:∃K,4000000=K:=⟨_,rfl⟩
 rw[hK];obtain⟨g,hr⟩:=iz (f:=cz (run M) K aJ.l0) s.boxes.length (qt s) (zh s) 2 (.bool false) 0 (JD s)
  (fun i hi x c=>aJ.mh ⟨k1,k3,k5,k6⟩ s hs K (by omega) i hi x c)
  (fun i hi x c=>aJ.bad ⟨k1,k3,k5,k6⟩ s hs K (by omega) i hi x c)
  (fun x=>by
   obtain⟨v,w,x⟩:=x;simp only[aE];simp (maxSteps:=9^9) [aJ.l0,aa,zh,JD,JC])
 have hr2:=fun x=>gz (hr x) (show s.boxes.length+1≤K by have:=hs.b;omega)
 cases c1:kx 1 s.eJ 2
 ·simp (maxSteps:=9^9) [ba,aJ.m,aJ.b,aa,h1,c1,a8]
 cases c2:kx 0 s.time 100000
 ·simp (maxSteps:=9^9) [ba,aJ.m,aJ.b,aa,h1,h2,c1,c2,a8]
 by_cases c3:5<s.boxes.length
 ·have c3':¬s.boxes.length≤5:=by omega
  have ci:(5:Int)<s.boxes.length:=by omega
  simp (maxSteps:=9^9) [ba,aJ.m,aJ.b,aa,h1,h2,c1,c2,c3',ci,a8]
 have c3':s.boxes.length≤5:=by omega
 have ci:¬(5:Int)<s.boxes.length:=by omega
 cases c4:lV s.gone 20
 ·simp (maxSteps:=9^9) [ba,aJ.m,aJ.b,aa,h1,h2,h3,c1,c2,ci,c4,a8]
 have hz:seenAt s 0=[]:=by simp[seenAt]
 cases q:dV (qt s) s.boxes.length with
 |none=>
  simp[zh,JD,JC,q,lv,hz,aA] at hr2;simp (maxSteps:=9^9) [ba,aJ.m,aJ.b,aa,h1,h2,h3,c1,c2,c3',ci,c4,hr2,a8,q]
 |some k=>
  simp[zh,JC,q,lv,hz,aA] at hr2;simp (maxSteps:=9^9) [ba,aJ.m,aJ.b,aa,h1,h2,h3,c1,c2,c3',ci,c4,hr2,a8,q]
theorem lE{a n b:Int}:kx a n b=true↔a≤n∧n≤b:=by simp[kx]
def fP(n:Int):List UInt8:=kJ n.toNat
theorem EP{n:Int}(h:n≤9223372036854775807):(fP n).length≤10:=jC (by omega)
theorem bD.int(h:bD.k M)(n:Int)(h0:0≤n)(h1:n≤9223372036854775807):run M 99 [.c (I n)] []=some (.c (S (fP n)),[]):=by
 have:=bD.ak h n.toNat (by omega);rw[show ((n.toNat:Nat):Int)=n by omega] at this;exact this
theorem cJ.int(h:cJ.k M)(n:Int)(h0:0≤n)(h1:n≤1000000000):run M 230 [.c (I n)] []=some (.lM [.c (S (fP n)),.c (.bool true)],[]):=by
 have:=cJ.ak h n.toNat (by omega);rw[show ((n.toNat:Nat):Int)=n by omega,if_pos (by omega),decide_eq_true (by omega)] at this;exact this
def isVar(n:Int):Prop:=0≤n∧n≤1000000000
theorem cO{n:Int}(h:isVar n):(fP n).length≤10:=EP (by have:=h.2;omega)
def LU(l:List Int)(i:Nat)(s:List UInt8)(x:Nat):St:={t:=[(3,.c (S s)),(8,.c (ints l)),(9,.c (I l.length)),(10,.c (I i))],o:=[],n:=x}
def Mt(l:List Int)(s:List UInt8)(x:Nat):St:={t:=[(3,.c (S s)),(8,.c (ints l)),(9,.c (I l.length)),(10,.c (I l.length)),(11,.c (.bool false))],o:=[],n:=x}
theorem fE.ak(h:fE.k M)(l:List Int)(hl:l.length≤1048576)(hv:∀n∈l,isVar n):run M 151 [.c (ints l)] []=some (.c (S (texts fP l)),[]):=by
 refine au (b:=fE.m) h.1 ⟨l.length+1, ?_⟩;obtain⟨g,hr⟩:=mY (f:=cz (run M) (l.length+1) fE.l0) l fP 10 0 (fun n hn=>cO (hv n hn)) (LU l) 0 (Mt l)
  (fun i hi s x hs=>by
   have e5:=cA (i:=i) (by omega);have h1:=cJ.int h.2 l[i] (hv _ (ax hi)).1 (hv _ (ax hi)).2;have h2:=cO (hv _ (ax hi));simp (maxSteps:=9^9) (disch:=(first|omega|(simp;done)|(simp;omega))) [fE.l0,bT,LU,hi,h1,e5])
  (fun s x=>by simp (maxSteps:=9^9) [fE.l0,LU,Mt]) [] (by simp)
 simp[LU,Mt] at hr;simp (maxSteps:=9^9) [ba,fE.m,fE.b,aa,hr]
def tI(r:mJ):List UInt8:=texts fP [r.val,r.time,r.eJ]
def nh(m:bj):List UInt8:=texts fP [m.gid,m.uid]++texts tI m.flags++iT m.text
theorem tc{r:mJ}(h:oM r=true):isVar r.val∧isVar r.time∧isVar r.eJ:=by
 simp only[oM,lA,aj,lE] at h;unfold isVar;omega
theorem qS{l:List mJ}(h:mG l=true):l.length=3∧∀r∈l,oM r=true:=by
 simp only[mG,aj,decide_eq_true_eq,ch,jE] at h;refine⟨h.2,fun r hr=> ?_⟩;obtain⟨i,hi,e⟩:=bQ hr;have:=h.1 i hi;rw[pD hi,e] at this;simp at this;exact this.1
theorem lX{m:bj}(h:iZ m=true):isVar m.gid∧isVar m.uid∧m.flags.length=3∧(∀r∈m.flags,oM r=true)∧m.text.length≤60:=by
 simp only[iZ,aj,lE,decide_eq_true_eq] at h;have hf:=qS h.1.2;exact⟨⟨by omega,by omega⟩,⟨by omega,by omega⟩,hf.1,hf.2,h.2⟩
theorem p6{r:mJ}(h:oM r=true):(tI r).length≤30:=by
 have h1:=tc h;have:=cO h1.1;have:=cO h1.2.1;have:=cO h1.2.2;simp[tI,texts];omega
theorem oj{m:bj}(h:iZ m=true):(nh m).length≤1000:=by
 obtain⟨h1,h2,h3,h4,h5⟩:=lX h;have:=cO h1;have:=cO h2;have h6:=kZ tI m.flags 30 fun r hr=>p6 (h4 r hr)
 have h7:=jC (n:=m.text.length) (by omega);rw[h3] at h6;simp only[nh,iT,aD];have:(texts fP [m.gid,m.uid]).length≤20:=by simp[texts];omega
 omega
def L6(m:bj)(i:Nat)(s:List UInt8)(x:Nat×Nat):St:={t:=[(1,.c (.ptr 1 x.1 0 0)),(4,.c (S s)),(17,.c (jf m.flags)),(18,.c (I m.flags.length)),(19,.c (I i))],o:=[(1,⟨x.1,4,true,true,[ah m]⟩)],n:=x.2}
def MK(m:bj)(s:List UInt8)(x:Nat×Nat):St:={t:=[(1,.c (.ptr 1 x.1 0 0)),(4,.c (S s)),(17,.c (jf m.flags)),(18,.c (I m.flags.length)),(19,.c (I m.flags.length)),(20,.c (.bool false))],o:=[(1,⟨x.1,4,true,true,[ah m]⟩)],n:=x.2}
theorem ep.ak(h:ep.k M)(m:bj)(hl:m.flags.length≤1048576):run M 213 [.a (ah m)] []=some (.lM [.c (S (if iZ m=true then nh m else [])),.c (.bool (iZ m))],[]):=by
 obtain⟨h0,ks,kv,ko⟩:=h;have h1:=eK.ak ko m hl;refine au (b:=ep.m) h0 ⟨m.flags.length+1, ?_⟩;simp only[ah] at h1;cases c:iZ m
 ·rw[c] at h1;simp (maxSteps:=9^9) [ba,ep.m,ep.b,aa,h1]
 rw[c] at h1;obtain⟨v1,v2,v3,v4,v5⟩:=lX c;have h2:=fE.ak kv [m.gid,m.uid] (by simp) (by simp;exact⟨v1,v2⟩);have h3:=jq.ak ks m.text (by omega);have l1:(texts fP [m.gid,m.uid]).length≤20:=by have:=cO v1;have:=cO v2;simp[texts];omega
 obtain⟨g,hr⟩:=mY (f:=cz (run M) (m.flags.length+1) ep.l0) m.flags tI 30 20 (fun r hr=>p6 (v4 r hr)) (L6 m) 0 (MK m)
  (fun i hi s x hs=>by
   obtain⟨v,x⟩:=x;have e5:=cA (i:=i) (by omega);have hx:=tc (v4 _ (ax hi));have h4:=fE.ak kv [m.flags[i].val,m.flags[i].time,m.flags[i].eJ] (by simp) (by simp;exact⟨hx.1,hx.2.1,hx.2.2⟩);have h5:=p6 (v4 _ (ax hi));change run M 151 _ _=some (.c (S (tI m.flags[i])),[]) at h4;simp only[ints,aA,bu,bS] at h4;simp only[aE];simp (maxSteps:=9^9) (disch:=(first|omega|(simp;done)|(simp;omega))) [ep.l0,ab,setAt,bT,L6,hi,h4,e5,aO])
  (fun s x=>by
   obtain⟨v,x⟩:=x;simp only[aE];simp (maxSteps:=9^9) [ep.l0,L6,MK]) (texts fP [m.gid,m.uid]) l1
 have l2:=kZ tI m.flags 30 fun r hr=>p6 (v4 r hr)
 have l3:=jC (n:=m.text.length) (by omega);have l4:(iT m.text).length≤70:=by simp[iT];omega
 have l5:(texts fP [m.gid,m.uid]++texts tI m.flags).length+(iT m.text).length≤4611686018427387904:=by simp;omega
 simp only[ints,aA,bu,bS] at h2;generalize hp:texts fP [m.gid,m.uid]=p at*;simp[L6,MK] at hr;simp at l5;simp (maxSteps:=9^9) (disch:=(first|omega|(simp;done)|(simp;omega))) [ba,ep.m,ep.b,aa,ab,bT,hr,h1,h2,h3,nh,hp]
def L7(m:bj)(i:Nat)(s:List UInt8)(x:Nat×Nat):St:={t:=[(1,.c (.ptr 1 x.1 0 0)),(4,.c (S s)),(5,.c (I i))],o:=[(1,⟨x.1,4,true,true,[ah m]⟩)],n:=x.2}
def ML(m:bj)(s:List UInt8)(x:Nat×Nat):St:={t:=[(1,.c (.ptr 1 x.1 0 0)),(4,.c (S s)),(5,.c (I m.flags.length)),(20,.c (.bool false))],o:=[(1,⟨x.1,4,true,true,[ah m]⟩)],n:=x.2}
theorem eh.ak(h:eh.k M)(m:bj)(hl:m.flags.length≤1048576):run M 122 [.a (ah m)] []=some (.lM [.c (S (if iZ m=true then nh m else [])),.c (.bool (iZ m))],[]):=by
 obtain⟨h0,kv,ko⟩:=h;have h1:=dJ.ak ko m hl;refine au (b:=eh.m) h0 ⟨m.flags.length+1, ?_⟩;simp only[ah] at h1;cases c:iZ m
 ·rw[c] at h1;simp (maxSteps:=9^9) [ba,eh.m,eh.b,aa,h1]
 rw[c] at h1;obtain⟨v1,v2,v3,v4,v5⟩:=lX c;have h2:=bD.int kv m.gid v1.1 (by have:=v1.2;omega);have h2':=bD.int kv m.uid v2.1 (by have:=v2.2;omega);have h3:=bD.ak kv m.text.length (by omega);have l0:=cO v1;have l0':=cO v2;obtain⟨g,hr⟩:=mY (f:=cz (run M) (m.flags.length+1) eh.l0) m.flags tI 30 20 (fun r hr=>p6 (v4 r hr)) (L7 m) 0 (ML m)
  (fun i hi s x hs=>by
   obtain⟨v,x⟩:=x;have e5:=cA (i:=i) (by omega);have hx:=tc (v4 _ (ax hi));have h4:=bD.int kv m.flags[i].val hx.1.1 (by have:=hx.1.2;omega);have h5:=bD.int kv m.flags[i].time hx.2.1.1 (by have:=hx.2.1.2;omega);have h6:=bD.int kv m.flags[i].eJ hx.2.2.1 (by have:=hx.2.2.2;omega);have l1:=cO hx.1;have l2:=cO hx.2.1;have l3:=cO hx.2.2;simp only[aE];simp (maxSteps:=9^9) (disch:=(first|omega|(simp;done)|(simp;omega))) [eh.l0,bT,L7,hi,h4,h5,h6,e5,aO,tI,texts])
  (fun s x=>by
   obtain⟨v,x⟩:=x;simp only[aE];simp (maxSteps:=9^9) [eh.l0,L7,ML]) (fP m.gid++fP m.uid) (by simp;omega)
 have l2:=kZ tI m.flags 30 fun r hr=>p6 (v4 r hr)
 have l3:=jC (n:=m.text.length) (by omega);have hp:texts fP [m.gid,m.uid]=fP m.gid++fP m.uid:=by simp[texts]
 have hm:nh m=fP m.gid++(fP m.uid++(texts tI m.flags++(kJ m.text.length++m.text))):=by simp[nh,hp,iT]
 simp[L7,ML] at hr;rw[hm];simp (maxSteps:=9^9) (disch:=(first|omega|(simp;done)|(simp;omega))) [ba,eh.m,eh.b,aa,ab,bT,hr,h1,h2,h2',h3]
theorem zg{t w:Int}(h:lA t w=true):isVar t∧isVar w:=by
 simp only[lA,aj,lE] at h;unfold isVar;omega
theorem pP{l:List Int}{most:Int}(h:lV l most=true):(l.length:Int)≤most∧∀n∈l,1≤n∧n≤9999:=by
 simp only[lV,aj,decide_eq_true_eq,ch,jE] at h;refine⟨h.2,fun r hr=> ?_⟩;obtain⟨i,hi,e⟩:=bQ hr;have:=h.1 i hi;rw[ou hi,e] at this;simp at this;exact lE.1 this.1
theorem nK{l:List UInt8}(h:nU l=true):1≤l.length∧l.length≤12:=by
 simp only[nU,aj,lE] at h;omega
theorem j5{b:bq}(h:fA b=true):isVar b.gid∧b.name.length≤12∧isVar b.time∧isVar b.eJ∧isVar b.next∧b.ae.length≤10∧b.gone.length≤40∧(∀n∈b.gone,isVar n)∧∀m∈b.ae,iZ m=true:=by
 simp only[fA,aj,decide_eq_true_eq,ch,jE,lE] at h;obtain⟨⟨⟨⟨⟨⟨h1,h2⟩,h3⟩,h4⟩,h5⟩,h6⟩,h7⟩:=h;have hn:=nK h2;have hs:=zg h3;have hg:=pP h6;refine⟨⟨by omega,by omega⟩,hn.2,hs.1,hs.2,⟨by omega,by omega⟩,h5,by omega,fun n hn=>⟨by have:=hg.2 n hn;omega,by have:=hg.2 n hn;omega⟩,fun m hm=> ?_⟩;obtain⟨i,hi,e⟩:=bQ hm;have:=h7 i hi;rw[nN hi,e] at this;simp at this;exact this.1.1.1.1
def sH(b:bq):List UInt8:=fP b.gid++(kJ b.name.length++(b.name++(fP b.time++(fP b.eJ++(fP b.next++kJ b.ae.length)))))
def pG(b:bq):List UInt8:=sH b++(texts nh b.ae++(kJ b.gone.length++texts fP b.gone))
theorem xR{b:bq}(h:fA b=true):(sH b).length≤200:=by
 obtain⟨h1,h2,h3,h4,h5,h6,_⟩:=j5 h;have:=cO h1;have:=cO h3;have:=cO h4;have:=cO h5;have:=jC (n:=b.name.length) (by omega);have:=jC (n:=b.ae.length) (by omega);simp[sH];omega
def Mj(b:bq)(i:Nat)(s:List UInt8)(x:Nat×Nat):St:={t:=[(1,.c (.ptr 1 x.1 0 0)),(3,.c (S s)),(31,.c (ae b.ae)),(32,.c (I b.ae.length)),(33,.c (I i))],o:=[(1,⟨x.1,7,true,true,[af b]⟩)],n:=x.2}
def M4(b:bq)(s:List UInt8)(x:Nat×Nat):St:={t:=[(1,.c (.ptr 1 x.1 0 0)),(3,.c (S s)),(31,.c (ae b.ae)),(32,.c (I b.ae.length)),(33,.c (I b.ae.length)),(34,.c (.bool false))],o:=[(1,⟨x.1,7,true,true,[af b]⟩)],n:=x.2}
theorem e_.ak(h:e_.k M)(b:bq)(c:fA b=true):run M 123 [.a (af b)] []=some (.c (S (pG b)),[]):=by
 obtain⟨h0,ks,kv,km⟩:=h;refine au (b:=e_.m) h0 ⟨b.ae.length+1, ?_⟩;obtain⟨v1,v2,v3,v4,v5,v6,v7,v8,v9⟩:=j5 c;have h1:=fE.ak kv [b.gid] (by simp) (by simp;exact v1);have h2:=jq.ak ks b.name (by omega);have h3:=fE.ak kv [b.time,b.eJ,b.next,b.ae.length] (by simp) (by simp;exact⟨v3,v4,v5,by unfold isVar;omega⟩);have h4:=fE.ak kv [b.gone.length] (by simp) (by simp;unfold isVar;omega);have h5:=fE.ak kv b.gone (by omega) v8;have l1:=cO v1;have l3:=cO v3;have l4:=cO v4;have l5:=cO v5;have l6:=jC (n:=b.name.length) (by omega);have l7:=jC (n:=b.ae.length) (by omega);have l8:=jC (n:=b.gone.length) (by omega);have l9:=kZ fP b.gone 10 fun n hn=>cO (v8 n hn)
 have l10:=kZ nh b.ae 1000 fun m hm=>oj (v9 m hm)
 have hp:=xR c;obtain⟨g,hr⟩:=mY (f:=cz (run M) (b.ae.length+1) e_.l0) b.ae nh 1000 200 (fun m hm=>oj (v9 m hm)) (Mj b) 0 (M4 b)
  (fun i hi s x hs=>by
   obtain⟨v,x⟩:=x;have e5:=cA (i:=i) (by omega);have hx:=v9 _ (ax hi);have h6:=ep.ak km b.ae[i] (by have:=(lX hx).2.2.1;omega);rw[if_pos hx,hx] at h6;have h7:=oj hx;simp only[ah] at h6;simp only[aE];simp (maxSteps:=9^9) (disch:=(first|omega|(simp;done)|(simp;omega))) [e_.l0,ab,setAt,bT,Mj,hi,h6,e5,ah])
  (fun s x=>by
   obtain⟨v,x⟩:=x;simp only[aE];simp (maxSteps:=9^9) [e_.l0,Mj,M4]) (sH b) hp
 have q1:texts fP [b.gid]=fP b.gid:=by simp[texts]
 have q3:texts fP [b.time,b.eJ,b.next,(b.ae.length:Int)]=fP b.time++(fP b.eJ++(fP b.next++kJ b.ae.length)):=by simp[texts,fP]
 have q4:texts fP [(b.gone.length:Int)]=kJ b.gone.length:=by simp[texts,fP]
 rw[q1] at h1;rw[q3] at h3;rw[q4] at h4;simp only[ints,aA,bu,bS,iT] at h1 h2 h3 h4;simp[Mj,M4] at hr;have e1:=bT (fP b.gid) (kJ b.name.length++b.name) (by simp;omega);have e2:=bT (fP b.gid++(kJ b.name.length++b.name)) (fP b.time++(fP b.eJ++(fP b.next++kJ b.ae.length))) (by simp;omega);have e3:sH b=(fP b.gid++(kJ b.name.length++b.name))++(fP b.time++(fP b.eJ++(fP b.next++kJ b.ae.length))):=by simp[sH]
 rw[←e3] at e2;have e4:=bT (sH b++texts nh b.ae) (kJ b.gone.length) (by simp;omega);have e5:=bT (sH b++texts nh b.ae++kJ b.gone.length) (texts fP b.gone) (by simp;omega);simp only[b4] at e1 e2 e4 e5;simp only[pG];generalize sH b=p at*;generalize texts nh b.ae=q at*;generalize texts fP b.gone=r at*;simp (maxSteps:=9^9) [ba,e_.m,e_.b,aa,hr,h1,h2,h3,h4,h5,e1,e2,e4,e5,ab]
def Mk(b:bq)(i:Nat)(s:List UInt8)(x:Nat×Nat):St:={t:=[(1,.c (.ptr 1 x.1 0 0)),(4,.c (S s)),(5,.c (I i))],o:=[(1,⟨x.1,7,true,true,[af b]⟩)],n:=x.2}
def M5(b:bq)(s:List UInt8)(x:Nat×Nat):St:={t:=[(1,.c (.ptr 1 x.1 0 0)),(4,.c (S s)),(5,.c (I b.ae.length)),(46,.c (.bool false))],o:=[(1,⟨x.1,7,true,true,[af b]⟩)],n:=x.2}
def Ml(b:bq)(i:Nat)(s:List UInt8)(x:Nat×Nat):St:={t:=[(1,.c (.ptr 1 x.1 0 0)),(4,.c (S s)),(8,.c (I i))],o:=[(1,⟨x.1,7,true,true,[af b]⟩)],n:=x.2}
def M8(b:bq)(s:List UInt8)(x:Nat×Nat):St:={t:=[(1,.c (.ptr 1 x.1 0 0)),(4,.c (S s)),(8,.c (I b.gone.length)),(71,.c (.bool false))],o:=[(1,⟨x.1,7,true,true,[af b]⟩)],n:=x.2}
theorem df.ak(h:df.k M)(b:bq)(hml:b.ae.length≤1048576)(hgl:b.gone.length≤4611686018427387904)(hnl:b.name.length≤4611686018427387904)(hw:∀m∈b.ae,m.flags.length≤1048576):
  run M 34 [.a (af b)] []=some (.lM [.c (S (if fA b=true then pG b else [])),.c (.bool (fA b))],[]):=by
 obtain⟨h0,ko,kv,km⟩:=h;have h1:=br.ak ko b hml hgl hnl hw;refine au (b:=df.m) h0 ⟨b.ae.length+b.gone.length+1, ?_⟩;simp only[af] at h1;cases c:fA b
 ·rw[c] at h1;simp (maxSteps:=9^9) [ba,df.m,df.b,aa,h1]
 rw[c] at h1;obtain⟨v1,v2,v3,v4,v5,v6,v7,v8,v9⟩:=j5 c;have g1:=bD.int kv b.gid v1.1 (by have:=v1.2;omega);have g2:=bD.ak kv b.name.length (by omega);have g3:=bD.int kv b.time v3.1 (by have:=v3.2;omega);have g4:=bD.int kv b.eJ v4.1 (by have:=v4.2;omega);have g5:=bD.int kv b.next v5.1 (by have:=v5.2;omega);have g6:=bD.ak kv b.ae.length (by omega);have g7:=bD.ak kv b.gone.length (by omega);have l1:=cO v1;have l3:=cO v3;have l4:=cO v4;have l5:=cO v5;have l6:=jC (n:=b.name.length) (by omega);have l7:=jC (n:=b.ae.length) (by omega);have l8:=jC (n:=b.gone.length) (by omega);have l9:=kZ fP b.gone 10 fun n hn=>cO (v8 n hn)
 have l10:=kZ nh b.ae 1000 fun m hm=>oj (v9 m hm)
 have hp:=xR c;obtain⟨g,hr⟩:=mY (f:=cz (run M) (b.ae.length+b.gone.length+1) df.l0) b.ae nh 1000 200 (fun m hm=>oj (v9 m hm)) (Mk b) 0 (M5 b)
  (fun i hi s x hs=>by
   obtain⟨v,x⟩:=x;have e5:=cA (i:=i) (by omega);have hx:=v9 _ (ax hi);have h6:=eh.ak km b.ae[i] (by have:=(lX hx).2.2.1;omega);rw[if_pos hx,hx] at h6;have h7:=oj hx;simp only[ah] at h6;simp only[aE];have e6:=bT s (nh b.ae[i]) (by omega);simp (maxSteps:=9^9) [df.l0,Mk,hi,h6,e5,e6,ah])
  (fun s x=>by
   obtain⟨v,x⟩:=x;simp only[aE];simp (maxSteps:=9^9) [df.l0,Mk,M5]) (sH b) hp
 obtain⟨g',hr'⟩:=mY (f:=cz (run M) (b.ae.length+b.gone.length+1) df.l1) b.gone fP 10 11000 (fun n hn=>cO (v8 n hn)) (Ml b) 2 (M8 b)
  (fun i hi s x hs=>by
   obtain⟨v,x⟩:=x;have e5:=cA (i:=i) (by omega);have hx:=v8 _ (ax hi);have h6:=bD.int kv b.gone[i] hx.1 (by have:=hx.2;omega);have h7:=cO hx;simp only[aE];have e6:=bT s (fP b.gone[i]) (by omega);simp (maxSteps:=9^9) [df.l1,Ml,hi,h6,e5,e6])
  (fun s x=>by
   obtain⟨v,x⟩:=x;simp only[aE];simp (maxSteps:=9^9) [df.l1,Ml,M8]) (sH b++texts nh b.ae++kJ b.gone.length) (by simp;omega)
 have e1:=bT (fP b.gid) (kJ b.name.length) (by omega);have e2:=bT (fP b.gid++kJ b.name.length) b.name (by simp;omega);have e3:=bT (fP b.gid++kJ b.name.length++b.name) (fP b.time) (by simp;omega);have e4:=bT (fP b.gid++kJ b.name.length++b.name++fP b.time) (fP b.eJ) (by simp;omega);have e5:=bT (fP b.gid++kJ b.name.length++b.name++fP b.time++fP b.eJ) (fP b.next) (by simp;omega);have e6:=bT (fP b.gid++kJ b.name.length++b.name++fP b.time++fP b.eJ++fP b.next) (kJ b.ae.length) (by simp;omega);have e7:sH b=fP b.gid++kJ b.name.length++b.name++fP b.time++fP b.eJ++fP b.next++kJ b.ae.length:=by simp[sH]
 rw[←e7] at e6;have e8:=bT (sH b++texts nh b.ae) (kJ b.gone.length) (by simp;omega);simp only[b4] at e1 e2 e3 e4 e5 e6 e8;simp[Mk,M5] at hr;simp[Ml,M8] at hr';simp only[pG];have m1:b.ae.length+1≤b.ae.length+b.gone.length+1:=by omega
 have m2:b.gone.length+1≤b.ae.length+b.gone.length+1:=by omega
 have hr2:=fun x y=>gz (hr x y) m1
 have hr3:=fun x y=>gz (hr' x y) m2
 generalize sH b=p at*;generalize texts nh b.ae=q at*;generalize texts fP b.gone=r at*;simp (maxSteps:=9^9) [ba,df.m,df.b,aa,hr2,hr3,h1,g1,g2,g3,g4,g5,g6,g7,e1,e2,e3,e4,e5,e6,e8]
theorem EO{b:bq}{n:Nat}(h:n_ b≤n):b.ae.length≤n∧b.gone.length≤n∧b.name.length≤n∧∀m∈b.ae,m.flags.length≤n:=by
 unfold n_ at h;refine⟨by unfold mK at h;omega,by omega,by omega,fun m hm=> ?_⟩;have:=wo hm;unfold pe at this;omega
abbrev iU:=Int×Bool
abbrev mV(v:Nat)(l:List UInt8)(c:iU):Ob:=⟨v,3,true,true,[[S l,I c.1,.bool c.2]]⟩
abbrev ql:T:= .ptr 0 0 0 0
def cvar(l:List UInt8)(c:iU):Int×iU:=if c.2=true∨(fQ l c.1).2.2=false then(0,c.1,true) else((fQ l c.1).1,(fQ l c.1).2.1,false)
def ij(l:List UInt8)(c:iU):List UInt8×iU:=if c.2=true∨(c_ l c.1).2.2=false then([],c.1,true) else((c_ l c.1).1,(c_ l c.1).2.1,false)
theorem bL.ak(h:bL.k M)(l:List UInt8)(hl:l.length≤4611686018427387904)(c:iU):
  run M 152 [.c ql] [(0,mV 0 l c)]=some (.c (I (cvar l c).1),[(0,mV 0 l (cvar l c).2)]):=by
 obtain⟨a,b⟩:=c;have h1:=cd.ak h.2 l hl a;refine au (b:=bL.m) h.1 ⟨0, ?_⟩;unfold cvar;generalize fQ l a=r at*;obtain⟨n,e,ok⟩:=r;cases b<;>cases ok<;>simp (maxSteps:=9^9) [ba,bL.m,bL.b,aa,setAt,h1]
theorem dX.ak(h:dX.k M)(l:List UInt8)(hl:l.length≤4611686018427387904)(c:iU):
  run M 153 [.c ql] [(0,mV 0 l c)]=some (.c (S (ij l c).1),[(0,mV 0 l (ij l c).2)]):=by
 obtain⟨a,b⟩:=c;have h1:=cY.ak h.2 l hl a;refine au (b:=dX.m) h.1 ⟨0, ?_⟩;unfold ij;generalize c_ l a=r at*;obtain⟨n,e,ok⟩:=r;cases b<;>cases ok<;>simp (maxSteps:=9^9) [ba,dX.m,dX.b,aa,setAt,h1]
theorem b9.ak(h:b9.k M)(l:List UInt8)(hl:l.length≤4611686018427387904)(c:iU):
  run M 139 [.c ql] [(0,mV 0 l c)]=some (.c (I (cvar l c).1),[(0,mV 0 l (cvar l c).2)]):=by
 obtain⟨a,b⟩:=c;have h1:=b_.ak h.2 l hl a;refine au (b:=b9.m) h.1 ⟨0, ?_⟩;unfold cvar;generalize fQ l a=r at*;obtain⟨n,e,ok⟩:=r;cases b<;>cases ok<;>simp (maxSteps:=9^9) [ba,b9.m,b9.b,aa,setAt,h1]
theorem fM.ak(h:fM.k M)(l:List UInt8)(hl:l.length≤4611686018427387904)(c:iU):
  run M 140 [.c ql] [(0,mV 0 l c)]=some (.c (S (ij l c).1),[(0,mV 0 l (ij l c).2)]):=by
 obtain⟨a,b⟩:=c;have h1:=cW.ak h.2 l hl a;refine au (b:=fM.m) h.1 ⟨0, ?_⟩;unfold ij;generalize c_ l a=r at*;obtain⟨n,e,ok⟩:=r;cases b<;>cases ok<;>simp (maxSteps:=9^9) [ba,fM.m,fM.b,aa,setAt,h1]
def jW(l:List UInt8)(most:Int)(c:iU):Int×iU:=
 if most<(cvar l c).1∨(cvar l c).2.2=true then(0,(cvar l c).2.1,true) else cvar l c
theorem dL.ak(h:dL.k M)(l:List UInt8)(hl:l.length≤4611686018427387904)(most:Int)(c:iU):
  run M 169 [.c ql,.c (I most)] [(0,mV 0 l c)]=some (.c (I (jW l most c).1),[(0,mV 0 l (jW l most c).2)]):=by
 have h1:=bL.ak h.2 l hl c;refine au (b:=dL.m) h.1 ⟨0, ?_⟩;unfold jW;generalize cvar l c=r at*;obtain⟨n,e,b⟩:=r;by_cases c1:most<n
 ·simp (maxSteps:=9^9) [ba,dL.m,dL.b,aa,setAt,h1,c1]
 ·cases b<;>simp (maxSteps:=9^9) [ba,dL.m,dL.b,aa,h1,c1]
def lW(l:List UInt8)(c:iU):(Int×Int)×iU:=(((cvar l c).1,(cvar l (cvar l c).2).1),(cvar l (cvar l c).2).2)
theorem fo.ak(h:fo.k M)(l:List UInt8)(hl:l.length≤4611686018427387904)(c:iU):
  run M 222 [.c ql] [(0,mV 0 l c)]=some (.a [I (lW l c).1.1,I (lW l c).1.2],[(0,mV 0 l (lW l c).2)]):=by
 have h1:=bL.ak h.2 l hl c;have h2:=bL.ak h.2 l hl (cvar l c).2;refine au (b:=fo.m) h.1 ⟨0, ?_⟩;simp (maxSteps:=9^9) [ba,fo.m,fo.b,aa,setAt,h1,h2,lW]
def lu{α:Type}(p:iU→α×iU):Nat→iU→List α×iU
 |0,c=>([],c)
 |n+1,c=>((p c).1::(lu p n (p c).2).1,(lu p n (p c).2).2)
theorem lG{α:Type}(p:iU→α×iU):∀n c,(lu p n c).1.length=n
 |0,c=>rfl
 |n+1,c=>by simp[lu,lG p n]
theorem rH{α β γ:Type}(n:Nat)(p:iU→α×iU){f:St→Option (Out×St)}(S:Nat→List α→iU→β→St)(e:Nat)(E:List α→iU→γ→St)
  (h1:∀i,i<n→∀acc c x,acc.length=i→∃y,f (S i acc c x)=some (.normal,S (i+1) (acc++[(p c).1]) (p c).2 y))
  (h3:∀acc c x,acc.length=n→∃y,f (S n acc c x)=some (.exit e,E acc c y)) (c:iU):
  ∃g:β→γ,∀x,fx f (n+1) (S 0 [] c x)=some (.exit e,E (lu p n c).1 (lu p n c).2 (g x)):=by
 have:=iN (f:=f) (fun s:Nat×List α×iU=>S s.1 s.2.1 s.2.2) (fun s=>s.1≤n∧s.2.1.length=s.1) (fun s=>n-s.1) (fun s=>(s.2.1++(lu p (n-s.1) s.2.2).1,(lu p (n-s.1) s.2.2).2)) (fun q m=>(.exit e,E q.1 q.2 m)) ?_ (n+1) (0,[],c) ⟨Nat.zero_le _,rfl⟩ (by simp)
 ·simpa using this
 rintro ⟨i,acc,c⟩ x ⟨hi,ha⟩;simp only at hi ha;by_cases hlt:i<n
 ·left;obtain⟨y,hy⟩:=h1 i hlt acc c x ha;refine⟨(i+1,acc++[(p c).1],(p c).2),y,hy,⟨hlt,by simp[ha]⟩,by simp only;omega, ?_⟩;simp only;rw[show n-i=(n-(i+1))+1 by omega];simp[lu]
 ·have:i=n:=by omega
  subst this;right;obtain⟨y,hy⟩:=h3 acc c x ha;exact⟨y,by simp[hy,lu],by simp⟩
def nZ(l:List UInt8)(most:Int)(c:iU):List Int×iU:=lu (cvar l) (jW l most c).1.toNat (jW l most c).2
theorem oZ(l:List UInt8)(c:iU):0≤(cvar l c).1∧(cvar l c).1≤1000000000:=by
 have:=(pg l c.1).1;unfold cvar;split<;>simp<;>omega
theorem qn(l:List UInt8)(most:Int)(c:iU):0≤(jW l most c).1∧(jW l most c).1≤1000000000∧(0≤most→(jW l most c).1≤most):=by
 have:=oZ l c;unfold jW;split
 ·simp
 ·rename_i h;rw[not_or] at h;omega
def L1(l:List UInt8)(n:Nat)(i:Nat)(acc:List Int)(c:iU)(x:Nat×Nat):St:={t:=[(0,.c ql),(5,.c (.row 8 x.1 0 i)),(12,.c (I n)),(13,.c (I i))],o:=[(0,mV 0 l c),(8,⟨x.1,1,true,false,aA acc⟩)],n:=x.2}
def MJ(l:List UInt8)(n:Nat)(acc:List Int)(c:iU)(x:Nat×Nat):St:={t:=[(0,.c ql),(5,.c (.row 8 x.1 0 n)),(12,.c (I n)),(13,.c (I n)),(14,.c (.bool false))],o:=[(0,mV 0 l c),(8,⟨x.1,1,true,false,aA acc⟩)],n:=x.2}
theorem dp.ak(h:dp.k M)(l:List UInt8)(hl:l.length≤4611686018427387904)(most:Int)(c:iU):
  run M 170 [.c ql,.c (I most)] [(0,mV 0 l c)]=some (.c (.sl true 1 (aA (nZ l most c).1)),[(0,mV 0 l (nZ l most c).2)]):=by
 obtain⟨h0,k1,k2⟩:=h;have h1:=dL.ak k2 l hl most c;have hn:=qn l most c;unfold nZ;generalize jW l most c=q at*;obtain⟨n,c1⟩:=q;simp only at hn ⊢;obtain⟨n,rfl⟩:=gJ hn.1;simp only[fB];refine au (b:=dp.m) h0 ⟨n+1, ?_⟩;obtain⟨g,hr⟩:=rH (f:=cz (run M) (n+1) dp.l0) n (cvar l) (L1 l n) 0 (MJ l n)
  (fun i hi acc c x ha=>by
   obtain⟨v,x⟩:=x;have h2:=bL.ak k1 l hl c;have e5:=cA (i:=i) (by omega);have e6:i+1≤4294967296:=by omega
   have hii:(i:Int)<n:=by omega
   simp only[aE];simp (maxSteps:=9^9) [dp.l0,L1,hii,h2,e5,e6,ha,aA,ab])
  (fun acc c x ha=>by
   obtain⟨v,x⟩:=x;simp only[aE];simp (maxSteps:=9^9) [dp.l0,L1,MJ]) c1
 have hlen:=lG (cvar l) n c1;simp[L1,MJ,aA] at hr;simp (maxSteps:=9^9) [ba,dp.m,dp.b,aa,h1,hr,hlen,aA,ab]
theorem wrap_one:IntKind.i64.wrap 1=1:=wrap_i64 (by omega) (by omega)
def sG(l:List UInt8)(c:iU):mJ×iU:=(⟨(cvar l c).1,(lW l (cvar l c).2).1.1,(lW l (cvar l c).2).1.2⟩,(lW l (cvar l c).2).2)
def jG(l:List UInt8)(c:iU):bj×iU:=
 let g:=cvar l c
 let u:=cvar l g.2
 let f:=lu (sG l) 3 u.2
 let t:=ij l f.2
 (⟨g.1,u.1,f.1,t.1⟩,t.2)
abbrev sZ:List T:=[I 0,.str ⟨#[]⟩,I 0,I 0,I 0,.aL 4,.aL 1]
abbrev sQ:List T:=[I 0,I 0,.aL 3,.str ⟨#[]⟩]
structure kS where
 a:Nat
 b:Nat
 c:Nat
 d:Nat
theorem kS.ex{p:kS→Prop}:(∃x,p x)↔∃a b c d,p ⟨a,b,c,d⟩:=⟨fun⟨⟨a,b,c,d⟩,h⟩=>⟨a,b,c,d,h⟩,fun⟨a,b,c,d,h⟩=>⟨⟨a,b,c,d⟩,h⟩⟩
def Lc(l:List UInt8)(g u:Int)(i:Nat)(acc:List mJ)(c:iU)(x:kS):St:={t:=[(0,.c ql),(2,.c (.ptr 2 x.a 0 0)),(3,.c (.ptr 3 x.b 0 0)),(11,.c (I i))],o:=[(0,mV 0 l c),(2,⟨x.a,4,true,true,[sQ]⟩),(3,⟨x.b,4,true,true,[[I g,I u,if i=0 then .aL 3 else .row 23 x.c 0 i,.str ⟨#[]⟩]]⟩)]++if i=0 then [] else [(23,⟨x.c,3,true,false,acc.map aO⟩)],n:=x.d}
def MM(l:List UInt8)(g u:Int)(acc:List mJ)(c:iU)(x:kS):St:={t:=[(0,.c ql),(2,.c (.ptr 2 x.a 0 0)),(3,.c (.ptr 3 x.b 0 0)),(11,.c (I 3)),(12,.c (.bool false))],o:=[(0,mV 0 l c),(2,⟨x.a,4,true,true,[sQ]⟩),(3,⟨x.b,4,true,true,[[I g,I u,.row 23 x.c 0 3,.str ⟨#[]⟩]]⟩),(23,⟨x.c,3,true,false,acc.map aO⟩)],n:=x.d}
theorem dM.ak(h:dM.k M)(l:List UInt8)(hl:l.length≤4611686018427387904)(c:iU):
  run M 223 [.c ql] [(0,mV 0 l c)]=some (.a (iC (jG l c).1),[(0,mV 0 l (jG l c).2)]):=by
 obtain⟨h0,k1,k2,k3⟩:=h;have h1:=bL.ak k1 l hl c;have h2:=bL.ak k1 l hl (cvar l c).2;refine au (b:=dM.m) h0 ⟨4, ?_⟩;obtain⟨g,hr⟩:=rH (f:=cz (run M) 4 dM.l0) 3 (sG l) (Lc l (cvar l c).1 (cvar l (cvar l c).2).1) 0 (MM l (cvar l c).1 (cvar l (cvar l c).2).1)
  (fun i hi acc c x ha=>by
   obtain⟨v,w,z,x⟩:=x;have h2:=bL.ak k1 l hl c;have h3:=fo.ak k3 l hl (cvar l c).2;have e5:=cA (i:=i) (by omega);have hii:(i:Int)<3:=by omega
   simp only[kS.ex];cases i with
   |zero=>
    have:acc=[]:=aY ha;subst this;simp (maxSteps:=9^9) [dM.l0,setAt,Lc,h2,h3,wrap_one,aO,sG]
   |succ i=>
    have e6:i+1+1≤4294967296:=by omega
    have e7:(i:Int)+1<3:=by omega
    have e5:IntKind.i64.wrap ((i:Int)+1+1)=(i:Int)+1+1:=wrap_i64 (by omega) (by omega);simp (maxSteps:=9^9) [dM.l0,setAt,Lc,e7,h2,h3,e5,e6,ha,aO,sG,ab])
  (fun acc c x ha=>by
   obtain⟨v,w,z,x⟩:=x;simp only[kS.ex];simp (maxSteps:=9^9) [dM.l0,Lc,MM]) (cvar l (cvar l c).2).2
 have hlen:=lG (sG l) 3 (cvar l (cvar l c).2).2;have h4:=dX.ak k2 l hl (lu (sG l) 3 (cvar l (cvar l c).2).2).2;simp only[jG];generalize lu (sG l) 3 (cvar l (cvar l c).2).2=q at*
 replace hr:=fun a b d=>hr ⟨a,b,0,d⟩
 simp[Lc,MM] at hr;simp (maxSteps:=9^9) [ba,dM.m,dM.b,aa,setAt,h1,h2,h4,hr,hlen,ab]
end Mx

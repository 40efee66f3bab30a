/-
  What more of the functions compute, each by a small evaluation; no condition beyond what each says.
-/
import Derived.Lib.SlicesCompact
import Derived.Test.YtcihgbflbmhkbaaGreatMxClc
set_option maxHeartbeats 16000000
set_option linter.unusedSimpArgs false
set_option linter.unusedVariables false
namespace Mx
open Go
def cX.b:C:= .seq (.aj [Qv 2 0,Qv 3 1,Q 4 (.alloc [.int .i64 0,.int .i64 0,.aO 7,.aO 1]),Qb 5 false] [2,3,4] [2,3,4])
 (.seq (.seq (.aj [QL 8 5 3,Q 9 (.call 59 [.t 8] [] []),Q 10 (.not (.t 9))] [2,3,4,10] [2,3,4])
 (.cond (.t 10) (.seq (.aj [QL 11 4 2,Q 12 (.call 220 [.t 11] [] []),Qs 4 4 12,Qb 5 false] [4,5] [4])
 (.ret)) (.skip)))
 (.seq (.seq (.aj [Qf 13 0 3,Ql 14 13] [2,3,4,14] [2,3,4])
 (.block 0 (.seq (.aj [Q 16 (.bin .eql (.t 14) (kI 1)),Qm 15 16] [2,3,4,14,15] [2,3,4])
 (.cond (.t 15) (.seq (.aj [QL 17 4 2,Qf 18 1 3,Ql 19 18,Qf 20 4 3,Ql 21 20,Q 22 (.call 409 [.t 17,.t 19,.t 21] [] []),Qx 23 0 22,Qx 24 1 22,Qs 4 4 23,Qm 5 24] [4,5] [4])
 (.ret)) (.seq (.aj [Q 26 (.bin .eql (.t 14) (kI 2)),Qm 25 26] [2,3,4,14,25] [2,3,4])
 (.cond (.t 25) (.seq (.aj [QL 27 4 2,Qf 28 1 3,Ql 29 28,Qf 30 4 3,Ql 31 30,Q 32 (.call 411 [.t 27,.t 29,.t 31] [] []),Qx 33 0 32,Qx 34 1 32,Qs 4 4 33,Qm 5 34] [4,5] [4])
 (.ret)) (.seq (.aj [Q 36 (.bin .eql (.t 14) (kI 3)),Qm 35 36] [2,3,4,14,35] [2,3,4])
 (.cond (.t 35) (.seq (.aj [QL 37 4 2,Qf 38 1 3,Ql 39 38,Q 40 (.call 412 [.t 37,.t 39] [] []),Qx 41 0 40,Qx 42 1 40,Qs 4 4 41,Qm 5 42] [4,5] [4])
 (.ret)) (.seq (.aj [Q 44 (.bin .eql (.t 14) (kI 4)),Qm 43 44] [2,3,4,14,43] [2,3,4])
 (.cond (.t 43) (.seq (.aj [QL 45 4 2,Qf 46 1 3,Ql 47 46,Qf 48 2 3,Ql 49 48,Qf 50 3 3,Ql 51 50,Qf 52 4 3,Ql 53 52,Q 54 (.call 410 [.t 45,.t 47,.t 49,.t 51,.t 53] [] []),Qx 55 0 54,Qx 56 1 54,
   Qs 4 4 55,Qm 5 56] [4,5] [4])
 (.ret)) (.seq (.aj [Q 58 (.bin .eql (.t 14) (kI 5)),Qm 57 58] [2,3,4,14,57] [2,3,4])
 (.cond (.t 57) (.seq (.aj [QL 59 4 2,Qf 60 1 3,Ql 61 60,Qf 62 2 3,Ql 63 62,Qf 64 3 3,Ql 65 64,Q 66 (.call 428 [.t 59,.t 61,.t 63,.t 65] [] []),Qx 67 0 66,Qx 68 1 66,Qs 4 4 67,Qm 5 68] [4,5] [4])
 (.ret)) (.seq (.aj [Q 70 (.bin .eql (.t 14) (kI 6)),Qm 69 70] [2,3,4,69] [2,3,4])
 (.cond (.t 69) (.seq (.aj [QL 71 4 2,Qf 72 1 3,Ql 73 72,Qf 74 2 3,Ql 75 74,Q 76 (.call 429 [.t 71,.t 73,.t 75] [] []),Qx 77 0 76,Qx 78 1 76,Qs 4 4 77,Qm 5 78] [4,5] [4])
 (.ret)) (.skip)))))))))))))))
 (.seq (.aj [Qf 80 4 3,Ql 81 80,Q 82 (.call 76 [.t 81] [] []),Qm 79 82,Qx 83 0 79,Qx 84 1 79,Q 6 (.alloc [.int .i64 0,.int .i64 0,.aO 7,.aO 1]),Qs 4 6 83,Qm 7 84] [2,4,6] [2,4,6])
 (.seq (.seq (.aj [Qf 85 0 6,Ql 86 85,Qf 87 0 2,Ql 88 87,Q 89 (.bin .eql (.t 86) (.t 88)),Qm 90 89,Qg 91 (.load true 4 (.t 2)) 90 false,Qg 92 (.load true 4 (.t 6)) 90 false,
   Qg 93 (.call 433 [.t 91,.t 92] [] []) 90 false,Qg 94 (.not (.t 93)) 90 false,Q 95 (.pick (.t 90) (kB true) (.t 94))] [2,4,6,95] [2,4,6])
 (.cond (.t 95) (.seq (.aj [QL 96 4 2,Q 97 (.call 220 [.t 96] [] []),Qs 4 4 97,Qb 5 false] [4,5] [4])
 (.ret)) (.skip)))
 (.seq (.aj [QL 98 4 2,QL 99 4 6,Q 100 (.call 447 [.t 98,.t 99] [] []),Qs 4 4 100,Qb 5 true] [4,5] [4])
 (.ret))))))
def cX.m:Fn:={np:=2,body:=cX.b,res:=[.cell 4 true 4,.tmp 5]}
def cX.k(M:Nat→Option Body):Prop:=M 469=some (.code cX.m)∧aP.k M∧bH.k M∧cr.k M∧dh.k M∧fq.k M∧ec.k M∧fX.k M∧fk.k M∧fm.k M∧fw.k M∧bE.k M
def cW.b:C:= .seq (.aj [Qv 2 0,Qv 3 1,Q 4 (.alloc [.int .i64 0,.int .i64 0,.aO 7,.aO 1]),Qb 5 false] [2,3,4] [2,3,4])
 (.seq (.seq (.aj [QL 8 5 3,Q 9 (.call 58 [.t 8] [] []),Q 10 (.not (.t 9))] [2,3,4,10] [2,3,4])
 (.cond (.t 10) (.seq (.aj [QL 11 4 2,Q 12 (.call 219 [.t 11] [] []),Qs 4 4 12,Qb 5 false] [4,5] [4])
 (.ret)) (.skip)))
 (.seq (.seq (.aj [Qf 13 0 3,Ql 14 13] [2,3,4,14] [2,3,4])
 (.block 0 (.seq (.aj [Q 16 (.bin .eql (.t 14) (kI 1)),Qm 15 16] [2,3,4,14,15] [2,3,4])
 (.cond (.t 15) (.seq (.aj [QL 17 4 2,Qf 18 1 3,Ql 19 18,Qf 20 4 3,Ql 21 20,Q 22 (.call 278 [.t 17,.t 19,.t 21] [] []),Qx 23 0 22,Qx 24 1 22,Qs 4 4 23,Qm 5 24] [4,5] [4])
 (.ret)) (.seq (.aj [Q 26 (.bin .eql (.t 14) (kI 2)),Qm 25 26] [2,3,4,14,25] [2,3,4])
 (.cond (.t 25) (.seq (.aj [QL 27 4 2,Qf 28 1 3,Ql 29 28,Qf 30 4 3,Ql 31 30,Q 32 (.call 282 [.t 27,.t 29,.t 31] [] []),Qx 33 0 32,Qx 34 1 32,Qs 4 4 33,Qm 5 34] [4,5] [4])
 (.ret)) (.seq (.aj [Q 36 (.bin .eql (.t 14) (kI 3)),Qm 35 36] [2,3,4,14,35] [2,3,4])
 (.cond (.t 35) (.seq (.aj [QL 37 4 2,Qf 38 1 3,Ql 39 38,Q 40 (.call 283 [.t 37,.t 39] [] []),Qx 41 0 40,Qx 42 1 40,Qs 4 4 41,Qm 5 42] [4,5] [4])
 (.ret)) (.seq (.aj [Q 44 (.bin .eql (.t 14) (kI 4)),Qm 43 44] [2,3,4,14,43] [2,3,4])
 (.cond (.t 43) (.seq (.aj [QL 45 4 2,Qf 46 1 3,Ql 47 46,Qf 48 2 3,Ql 49 48,Qf 50 3 3,Ql 51 50,Qf 52 4 3,Ql 53 52,Q 54 (.call 279 [.t 45,.t 47,.t 49,.t 51,.t 53] [] []),Qx 55 0 54,Qx 56 1 54,
   Qs 4 4 55,Qm 5 56] [4,5] [4])
 (.ret)) (.seq (.aj [Q 58 (.bin .eql (.t 14) (kI 5)),Qm 57 58] [2,3,4,14,57] [2,3,4])
 (.cond (.t 57) (.seq (.aj [QL 59 4 2,Qf 60 1 3,Ql 61 60,Qf 62 2 3,Ql 63 62,Qf 64 3 3,Ql 65 64,Q 66 (.call 280 [.t 59,.t 61,.t 63,.t 65] [] []),Qx 67 0 66,Qx 68 1 66,Qs 4 4 67,Qm 5 68] [4,5] [4])
 (.ret)) (.seq (.aj [Q 70 (.bin .eql (.t 14) (kI 6)),Qm 69 70] [2,3,4,69] [2,3,4])
 (.cond (.t 69) (.seq (.aj [QL 71 4 2,Qf 72 1 3,Ql 73 72,Qf 74 2 3,Ql 75 74,Q 76 (.call 281 [.t 71,.t 73,.t 75] [] []),Qx 77 0 76,Qx 78 1 76,Qs 4 4 77,Qm 5 78] [4,5] [4])
 (.ret)) (.skip)))))))))))))))
 (.seq (.aj [Qf 80 4 3,Ql 81 80,Q 82 (.call 75 [.t 81] [] []),Qm 79 82,Qx 83 0 79,Qx 84 1 79,Q 6 (.alloc [.int .i64 0,.int .i64 0,.aO 7,.aO 1]),Qs 4 6 83,Qm 7 84] [2,4,6] [2,4,6])
 (.seq (.seq (.aj [Qf 85 0 6,Ql 86 85,Qf 87 0 2,Ql 88 87,Q 89 (.bin .eql (.t 86) (.t 88)),Qm 90 89,Qg 91 (.load true 4 (.t 2)) 90 false,Qg 92 (.load true 4 (.t 6)) 90 false,
   Qg 93 (.call 432 [.t 91,.t 92] [] []) 90 false,Qg 94 (.not (.t 93)) 90 false,Q 95 (.pick (.t 90) (kB true) (.t 94))] [2,4,6,95] [2,4,6])
 (.cond (.t 95) (.seq (.aj [QL 96 4 2,Q 97 (.call 219 [.t 96] [] []),Qs 4 4 97,Qb 5 false] [4,5] [4])
 (.ret)) (.skip)))
 (.seq (.aj [QL 98 4 2,QL 99 4 6,Q 100 (.call 446 [.t 98,.t 99] [] []),Qs 4 4 100,Qb 5 true] [4,5] [4])
 (.ret))))))
def cW.m:Fn:={np:=2,body:=cW.b,res:=[.cell 4 true 4,.tmp 5]}
def cW.k(M:Nat→Option Body):Prop:=M 468=some (.code cW.m)∧aX.k M∧bo.k M∧cd.k M∧bZ.k M∧dI.k M∧dy.k M∧dz.k M∧cK.k M∧dK.k M∧fu.k M∧bN.k M
def bX.tl:C:= .seq (.aj [Qm 42 0,Q 43 (.call 125 [.t 42,kI 12] [0] []),Qm 10 43] [0,2,4,6,7,8,10] [0,4,6])
 (.seq (.block 0 (.seq (.aj [Qm 45 7,Q 46 (.bin .eql (.t 45) (kI 0)),Qm 47 46,Qg 48 (.mv (.t 10)) 47 false,Qg 49 (.bin .eql (.t 48) (kI 0)) 47 false,Q 50 (.pick (.t 47) (kB true) (.t 49)),Qm 44 50] [0,2,4,6,7,8,10,44] [0,4,6])
 (.cond (.t 44) (.seq (.aj [Qm 51 2,Qm 52 0,Q 53 (.rS 1 3 [.str ⟨#[]⟩] [(0,.k (.str ⟨#[105,110,98,111,120]⟩)),(1,.k (.str ⟨#[119,111,114,107]⟩)),(2,.k (.str ⟨#[111,108,100]⟩))]),
   Q 54 (.call 185 [.t 52,.t 53] [0] []),Q 55 (.build [.int .i64 0,.int .i64 0,.int .i64 0,.int .i64 0,.str ⟨#[]⟩] [(0,1,kI 1),(1,1,.t 51),(4,1,.t 54)]),Qs 5 6 55] [6] [0,6])
 (.ret)) (.seq (.aj [Qm 57 10,Q 58 (.bin .lss (.t 57) (kI 5)),Qm 59 58,Qg 60 (.mv (.t 8)) 59 false,Qg 61 (.bin .eql (.t 60) (kI 0)) 59 false,Q 62 (.pick (.t 59) (kB true) (.t 61)),Qm 56 62] [0,2,4,6,7,8,10,56] [0,4,6])
 (.cond (.t 56) (.seq (.aj [Qm 63 7,Qm 64 2,Qm 65 0,Q 66 (.call 125 [.t 65,kI 8] [0] []),Qm 67 0,Q 68 (.call 174 [.t 67] [0] []),
   Q 69 (.build [.int .i64 0,.int .i64 0,.int .i64 0,.int .i64 0,.str ⟨#[]⟩] [(0,1,kI 4),(1,1,.t 63),(2,1,.t 64),(3,1,.t 66),(4,1,.t 68)]),Qs 5 6 69] [6] [0,6])
 (.ret)) (.seq (.aj [Qm 71 10,Q 72 (.bin .lss (.t 71) (kI 8)),Qm 70 72] [0,4,6,7,8,10,70] [0,4,6])
 (.cond (.t 70) (.seq (.aj [Qm 73 7,Qm 74 8,Qm 75 0,Q 76 (.call 125 [.t 75,kI 8] [0] []),
   Q 77 (.build [.int .i64 0,.int .i64 0,.int .i64 0,.int .i64 0,.str ⟨#[]⟩] [(0,1,kI 5),(1,1,.t 73),(2,1,.t 74),(3,1,.t 76)]),Qs 5 6 77] [6] [0,6])
 (.ret)) (.seq (.aj [Qm 79 10,Q 80 (.bin .eql (.t 79) (kI 8)),Qm 78 80] [0,4,6,7,8,10,78] [0,4,6])
 (.cond (.t 78) (.seq (.aj [Qm 81 7,Qm 82 8,Q 83 (.build [.int .i64 0,.int .i64 0,.int .i64 0,.int .i64 0,.str ⟨#[]⟩] [(0,1,kI 6),(1,1,.t 81),(2,1,.t 82)]),Qs 5 6 83] [6] [0,6])
 (.ret)) (.seq (.aj [Qm 85 10,Q 86 (.bin .eql (.t 85) (kI 9)),Qm 84 86] [0,4,6,7,10,84] [0,4,6])
 (.cond (.t 84) (.seq (.aj [Qm 87 7,Qm 88 0,Q 89 (.rS 1 3 [.str ⟨#[]⟩] [(0,.k (.str ⟨#[110,101,119]⟩)),(1,.k (.str ⟨#[105,110,98,111,120]⟩)),(2,.k (.str ⟨#[111,116,104,101,114]⟩))]),
   Q 90 (.call 185 [.t 88,.t 89] [0] []),Q 91 (.build [.int .i64 0,.int .i64 0,.int .i64 0,.int .i64 0,.str ⟨#[]⟩] [(0,1,kI 2),(1,1,.t 87),(4,1,.t 90)]),Qs 5 6 91] [6] [0,6])
 (.ret)) (.seq (.aj [Qm 93 10,Q 94 (.bin .eql (.t 93) (kI 10)),Qm 92 94] [0,4,6,7,92] [0,4,6])
 (.cond (.t 92) (.seq (.aj [Qm 95 7,Q 96 (.build [.int .i64 0,.int .i64 0,.int .i64 0,.int .i64 0,.str ⟨#[]⟩] [(0,1,kI 3),(1,1,.t 95)]),Qs 5 6 96] [6] [0,6])
 (.ret)) (.skip))))))))))))))
 (.seq (.aj [Qm 98 0,Qf 99 0 4,Ql 100 99,Q 101 (.bin .sub (kI 3) (.t 100)),Q 102 (.call 113 [.t 101] [] []),Q 103 (.call 244 [.t 98,.t 102,kI 5,kI 700] [0] []),
   Q 104 (.call 60 [.t 103] [] []),Qm 97 104,Qx 105 0 97,Qx 106 1 97,Qm 11 105,Qm 12 106] [6,11] [0,6])
 (.seq (.aj [Qm 107 11,Q 108 (.build [.int .i64 0,.int .i64 0,.int .i64 0,.int .i64 0,.str ⟨#[]⟩] [(0,1,kI 7),(4,1,.t 107)]),Qs 5 6 108] [6] [0,6])
 (.ret))))
def bX.b:C:= .seq (.aj [Qv 4 1,Q 6 (.alloc [.int .i64 0,.int .i64 0,.int .i64 0,.int .i64 0,.str ⟨#[]⟩])] [0,2,4,6] [0,4,6])
 (.seq (.aj [Qi 7 0] [0,2,4,6,7] [0,4,6])
 (.seq (.aj [Qi 8 0] [0,2,4,6,7,8] [0,4,6])
 (.seq (.seq (.aj [Qf 13 2 4,Ql 14 13,Q 15 (.len (.t 14)),Q 16 (.bin .gtr (.t 15) (kI 0))] [0,2,4,6,7,8,16] [0,4,6])
 (.cond (.t 16) (.seq (.gf [Qf 17 2 4,Ql 18 17,Qm 19 0,Qf 20 2 4,Ql 21 20,Q 22 (.len (.t 21)),Q 23 (.call 125 [.t 19,.t 22] [0] []),Qa 24 7 18 23,QL 25 7 24,
   Q 9 (.alloc [.int .i64 0,.str ⟨#[]⟩,.int .i64 0,.int .i64 0,.int .i64 0,.aO 4,.aO 1]),Qs 7 9 25] [[],[0],[],[],[3],[3,4],[2,3,4,5],lr 7,lr 8,[],lr 10] [0,2,4,6,8,9] [0,4,6,9])
 (.seq (.aj [Qf 26 0 9,Ql 27 26,Qm 7 27] [0,2,4,6,7,8,9] [0,4,6,9])
 (.seq (.aj [Qf 28 5 9,Ql 29 28,Q 30 (.len (.t 29)),Q 31 (.bin .gtr (.t 30) (kI 0))] [0,2,4,6,7,8,9,31] [0,4,6,9])
 (.cond (.t 31) (.gf [Qf 32 5 9,Ql 33 32,Qm 34 0,Qf 35 5 9,Ql 36 35,Q 37 (.len (.t 36)),Q 38 (.call 125 [.t 34,.t 37] [0] []),Qa 39 4 33 38,Qf 40 0 39,Ql 41 40,Qm 8 41] [[],[0],[],[],[3],[3,4],[2,3,4,5],lr 7,lr 8,lr 9,lr 10] [0,2,4,6,7,8] [0,4,6]) (.skip))))) (.skip)))
 bX.tl)))
def bX.m:Fn:={np:=3,body:=bX.b,res:=[.cell 6 true 5]}
def bX.k(M:Nat→Option Body):Prop:=M 519=some (.code bX.m)∧ch.k M∧gn.k M∧aG.k M∧eU.k M∧dG.k M∧bc.k M
def dj.b:C:= .seq (.aj [Qv 3 1,Q 4 (.alloc [.int .i64 0,.int .i64 0,.int .i64 0,.int .i64 0,.str ⟨#[]⟩])] [0,3,4] [0,3,4])
 (.seq (.aj [Qm 8 0,Q 9 (.call 125 [.t 8,kI 12] [0] []),Qm 5 9] [0,3,4,5] [0,3,4])
 (.seq (.aj [Qm 10 0,Q 11 (.call 125 [.t 10,kI 60] [0] []),Qm 6 11] [0,3,4,5,6] [0,3,4])
 (.seq (.aj [Qm 12 0,QL 13 4 3,Q 14 (.call 519 [.t 12,.t 13,kI 900] [0] []),Q 7 (.alloc [.int .i64 0,.int .i64 0,.int .i64 0,.int .i64 0,.str ⟨#[]⟩]),Qs 5 7 14] [4,5,6,7] [0,4,7])
 (.seq (.seq (.aj [Qm 15 5] [4,6,7,15] [0,4,7])
 (.block 0 (.seq (.aj [Q 17 (.bin .eql (.t 15) (kI 0)),Qm 16 17] [4,6,7,15,16] [0,4,7])
 (.cond (.t 16) (.aj [Qm 18 6,Q 19 (.bin .rem (.t 18) (kI 9)),Qf 20 0 7,Qs 1 20 19] [4,7] [0,4,7]) (.seq (.aj [Q 22 (.bin .eql (.t 15) (kI 1)),Qm 21 22] [4,6,7,15,21] [0,4,7])
 (.cond (.t 21) (.aj [Q 23 (.bL 1 3 [.int .i64 0] [(0,kI 0),(1,kI 5),(2,kI 10000)]),Qm 24 6,Q 25 (.bin .rem (.t 24) (kI 3)),Qa 26 1 23 25,Ql 27 26,Qf 28 1 7,Qs 1 28 27] [4,7] [0,4,7]) (.seq (.aj [Q 30 (.bin .eql (.t 15) (kI 2)),Qm 29 30] [4,6,7,15,29] [0,4,7])
 (.cond (.t 29) (.aj [Q 31 (.bL 1 3 [.int .i64 0] [(0,kI 0),(1,kI 5),(2,kI 10000)]),Qm 32 6,Q 33 (.bin .rem (.t 32) (kI 3)),Qa 34 1 31 33,Ql 35 34,Qf 36 2 7,Qs 1 36 35] [4,7] [0,4,7]) (.seq (.aj [Q 38 (.bin .eql (.t 15) (kI 3)),Qm 37 38] [4,6,7,15,37] [0,4,7])
 (.cond (.t 37) (.aj [Qm 39 6,Q 40 (.bin .rem (.t 39) (kI 10)),Q 41 (.bin .sub (.t 40) (kI 1)),Qf 42 3 7,Qs 1 42 41] [4,7] [0,4,7]) (.seq (.aj [Q 44 (.bin .eql (.t 15) (kI 4)),Qm 43 44] [4,6,7,43] [0,4,7])
 (.cond (.t 43) (.aj [Q 45 (.call 176 [kI 61,.k (.int .u8 97)] [] []),Q 46 (.bL 1 3 [.str ⟨#[]⟩] [(0,.k (.str ⟨#[]⟩)),(1,.k (.str ⟨#[65]⟩)),(2,.t 45)]),Qm 47 6,
   Q 48 (.bin .rem (.t 47) (kI 3)),Qa 49 1 46 48,Ql 50 49,Qf 51 4 7,Qs 1 51 50] [4,7] [0,4,7]) (.skip)))))))))))))
 (.seq (.aj [QL 52 5 7,Qs 5 4 52] [4] [0,4])
 (.ret))))))
def dj.m:Fn:={np:=2,body:=dj.b,res:=[.cell 4 true 5]}
def dj.k(M:Nat→Option Body):Prop:=M 520=some (.code dj.m)∧aG.k M∧dH.k M∧bX.k M
def fF.b:C:= .seq (.aj [Q 2 (.alloc [.int .i64 0,.int .i64 0,.aO 7,.aO 1]),Q 3 (.alloc [.int .i64 0,.int .i64 0,.int .i64 0,.int .i64 0,.str ⟨#[]⟩])] [0,2,3] [2,3])
 (.seq (.aj [Qm 6 0,Q 7 (.call 124 [.t 6] [] [(0,10700)]),Qm 4 7] [2,3,4] [2,3,10700])
 (.seq (.aj [Qm 8 4,Q 9 (.call 443 [.t 8] [0] []),Q 5 (.alloc [.int .i64 0,.int .i64 0,.aO 7,.aO 1]),Qs 4 5 9] [2,3,4,5] [2,3,5,10700])
 (.seq (.seq (.aj [Qf 10 0 5,Ql 11 10,Q 12 (.bin .neq (.t 11) (kI 1)),Qm 13 12,Qg 14 (.bK 0 (.t 5)) 13 true,Qg 15 (.load false 1 (.t 14)) 13 true,Qg 16 (.bin .neq (.t 15) (kI 2)) 13 true,
   Q 17 (.pick (.t 13) (.t 16) (kB false))] [2,3,4,5,17] [2,3,5,10700])
 (.cond (.t 17) (.aj [Qf 18 0 5,Qn (.store 1 (.t 18) (kI 1))] [2,3,4,5] [2,3,5,10700]) (.skip)))
 (.seq (.gf [QL 19 4 5,Qm 20 4,QL 21 4 5,Q 22 (.call 520 [.t 20,.t 21] [0] []),Qs 4 2 19,Qs 5 3 22] [[],[],[],[1,2],lr 4,lr 5] [2,3] [2,3])
 (.ret)))))
def fF.m:Fn:={np:=1,body:=fF.b,res:=[.cell 2 true 4,.cell 3 true 5]}
def fF.k(M:Nat→Option Body):Prop:=M 517=some (.code fF.m)∧fM.k M∧cC.k M∧dj.k M
def gC.b:C:= .seq (.aj [Q 2 (.alloc [.int .i64 0,.int .i64 0,.aO 7,.aO 1]),Q 3 (.alloc [.int .i64 0,.int .i64 0,.int .i64 0,.int .i64 0,.str ⟨#[]⟩])] [0,2,3] [2,3])
 (.seq (.aj [Qm 4 0,Q 5 (.call 517 [.t 4] [] []),Qx 6 0 5,Qx 7 1 5,Qs 4 2 6,Qs 5 3 7] [2,3] [2,3])
 (.ret))
def gC.m:Fn:={np:=1,body:=gC.b,res:=[.cell 2 true 4,.cell 3 true 5]}
def gC.k(M:Nat→Option Body):Prop:=M 509=some (.code gC.m)∧fF.k M
def cI.b:C:= .seq (.aj [Q 2 (.mv (.k (.str ⟨#[]⟩)))] [0] [])
 (.seq (.aj [Qm 9 0,Q 10 (.call 124 [.t 9] [] [(0,11000)]),Qm 3 10] [0,3] [11000])
 (.seq (.aj [Qm 11 3,Q 12 (.call 125 [.t 11,kI 4] [0] []),Qm 4 12] [0,3,4] [11000])
 (.seq (.aj [Qm 14 0,Q 15 (.call 517 [.t 14] [] []),Qm 13 15,Qx 16 0 13,Qx 17 1 13,Q 5 (.alloc [.int .i64 0,.int .i64 0,.aO 7,.aO 1]),
   Q 6 (.alloc [.int .i64 0,.int .i64 0,.int .i64 0,.int .i64 0,.str ⟨#[]⟩]),Qs 4 5 16,Qs 5 6 17] [3,4,6] [6,11000])
 (.seq (.aj [QL 19 5 6,Q 20 (.call 67 [.t 19] [] []),Qm 18 20,Qx 21 0 18,Qx 22 1 18,Qm 7 21,Qm 8 22] [3,4,7] [11000])
 (.seq (.seq (.aj [Qm 23 4] [3,7,23] [11000])
 (.block 0 (.seq (.aj [Q 25 (.bin .eql (.t 23) (kI 0)),Qm 24 25] [3,7,23,24] [11000])
 (.cond (.t 24) (.seq (.aj [Qm 26 3,Qm 27 7,Q 28 (.call 444 [.t 26,.t 27] [0] []),Qm 2 28] [2] [])
 (.ret)) (.seq (.aj [Q 30 (.bin .eql (.t 23) (kI 1)),Qm 29 30] [7,29] [])
 (.cond (.t 29) (.seq (.aj [Qm 31 7,Q 32 (.bin .add (.t 31) (.k (.str ⟨#[120]⟩))),Qm 2 32] [2] [])
 (.ret)) (.skip)))))))
 (.seq (.aj [Qm 33 7,Qm 2 33] [2] [])
 (.ret)))))))
def cI.m:Fn:={np:=1,body:=cI.b,res:=[.tmp 2]}
def cI.k(M:Nat→Option Body):Prop:=M 510=some (.code cI.m)∧gL.k M∧fM.k M∧aG.k M∧cg.k M∧fF.k M
def c_.b:C:= .seq (.aj [Qb 2 false] [0] [])
 (.seq (.seq (.aj [Qm 20 0,Q 21 (.call 36 [.t 20] [] [])] [0,21] [])
 (.cond (.t 21) (.seq (.aj [Qb 2 true] [2] [])
 (.ret)) (.skip)))
 (.seq (.aj [Qm 23 0,Q 24 (.call 509 [.t 23] [] []),Qm 22 24,Qx 25 0 22,Qx 26 1 22,Q 3 (.alloc [.int .i64 0,.int .i64 0,.aO 7,.aO 1]),
   Q 4 (.alloc [.int .i64 0,.int .i64 0,.int .i64 0,.int .i64 0,.str ⟨#[]⟩]),Qs 4 3 25,Qs 5 4 26] [0,3,4] [3,4])
 (.seq (.aj [QL 28 4 3,QL 29 5 4,Q 30 (.call 469 [.t 28,.t 29] [] []),Qm 27 30,Qx 31 0 27,Qx 32 1 27,Q 5 (.alloc [.int .i64 0,.int .i64 0,.aO 7,.aO 1]),Qs 4 5 31,Qm 6 32] [0,3,4,5,6] [3,4,5])
 (.seq (.aj [QL 34 4 3,QL 35 5 4,Q 36 (.call 468 [.t 34,.t 35] [] []),Qm 33 36,Qx 37 0 33,Qx 38 1 33,Q 7 (.alloc [.int .i64 0,.int .i64 0,.aO 7,.aO 1]),Qs 4 7 37,Qm 8 38] [0,3,4,5,6,7,8] [3,4,5,7])
 (.seq (.aj [QL 40 5 4,Q 41 (.call 68 [.t 40] [] []),Qm 39 41,Qx 42 0 39,Qx 43 1 39,Qm 9 42,Qm 10 43] [0,3,4,5,6,7,8,9,10] [3,4,5,7])
 (.seq (.aj [Qm 45 9,Q 46 (.call 65 [.t 45] [] []),Qm 44 46,Qx 47 0 44,Qx 48 1 44,Q 11 (.alloc [.int .i64 0,.int .i64 0,.int .i64 0,.int .i64 0,.str ⟨#[]⟩]),Qs 5 11 47,Qm 12 48] [0,3,4,5,6,7,8,10,11,12] [3,4,5,7,11])
 (.seq (.aj [Qm 49 0,Q 50 (.call 510 [.t 49] [] []),Qm 13 50] [3,4,5,6,7,8,10,11,12,13] [3,4,5,7,11])
 (.seq (.aj [Qm 52 13,Q 53 (.call 65 [.t 52] [] []),Qm 51 53,Qx 54 0 51,Qx 55 1 51,Q 14 (.alloc [.int .i64 0,.int .i64 0,.int .i64 0,.int .i64 0,.str ⟨#[]⟩]),Qs 5 14 54,Qm 15 55] [3,4,5,6,7,8,10,11,12,13,14,15] [3,4,5,7,11,14])
 (.seq (.aj [Qm 57 13,Q 58 (.call 64 [.t 57] [] []),Qm 56 58,Qx 59 0 56,Qx 60 1 56,Q 16 (.alloc [.int .i64 0,.int .i64 0,.int .i64 0,.int .i64 0,.str ⟨#[]⟩]),Qs 5 16 59,Qm 17 60] [3,4,5,6,7,8,10,11,12,13,14,15,17] [3,4,5,7,11,14])
 (.seq (.aj [QL 62 5 14,Q 63 (.call 68 [.t 62] [] []),Qm 61 63,Qx 64 0 61,Qx 65 1 61,Qm 18 64,Qm 19 65] [3,4,5,6,7,8,10,11,12,13,15,17,18] [3,4,5,7,11])
 (.seq (.aj [Qm 66 6,Qm 67 8,Q 68 (.beq false (.t 66) (.t 67)),Qm 69 68,Qg 70 (.load true 4 (.t 5)) 69 true,Qg 71 (.load true 4 (.t 7)) 69 true,
   Qg 72 (.call 421 [.t 70,.t 71] [] []) 69 true,Q 73 (.pick (.t 69) (.t 72) (kB false)),Qm 74 73,Qg 75 (.mv (.t 6)) 74 true,Qg 76 (.mv (.t 75)) 74 true,
   Qg 77 (.load true 4 (.t 5)) 76 false,Qg 78 (.load true 4 (.t 3)) 76 false,Qg 79 (.call 421 [.t 77,.t 78] [] []) 76 false,Qg 80 (.pick (.t 76) (kB true) (.t 79)) 74 true,
   Q 81 (.pick (.t 74) (.t 80) (kB false)),Qm 82 81,Qg 83 (.mv (.t 10)) 82 true,Qg 84 (.load true 5 (.t 4)) 82 true,Qg 85 (.call 58 [.t 84] [] []) 82 true,
   Qg 86 (.beq false (.t 83) (.t 85)) 82 true,Q 87 (.pick (.t 82) (.t 86) (kB false)),Qm 88 87,Qg 89 (.load true 5 (.t 4)) 88 true,Qg 90 (.call 59 [.t 89] [] []) 88 true,
   Qg 91 (.mv (.t 10)) 88 true,Qg 92 (.beq false (.t 90) (.t 91)) 88 true,Q 93 (.pick (.t 88) (.t 92) (kB false)),Qm 94 93,Qg 95 (.mv (.t 10)) 94 true,
   Qg 96 (.not (.t 95)) 94 true,Qg 97 (.mv (.t 96)) 94 true,Qg 98 (.mv (.t 12)) 97 false,Qg 99 (.mv (.t 98)) 97 false,Qg 100 (.load true 5 (.t 11)) 99 true,
   Qg 101 (.load true 5 (.t 4)) 99 true,Qg 102 (.eqs false [.int,.int,.int,.int,.str] (.t 100) (.t 101)) 99 true,Qg 103 (.pick (.t 99) (.t 102) (kB false)) 97 false,
   Qg 104 (.pick (.t 97) (kB true) (.t 103)) 94 true,Q 105 (.pick (.t 94) (.t 104) (kB false)),Qm 106 105,Qg 107 (.mv (.t 15)) 106 true,Qg 108 (.mv (.t 17)) 106 true,
   Qg 109 (.beq false (.t 107) (.t 108)) 106 true,Q 110 (.pick (.t 106) (.t 109) (kB false)),Qm 111 110,Qg 112 (.mv (.t 15)) 111 true,Qg 113 (.not (.t 112)) 111 true,
   Qg 114 (.mv (.t 113)) 111 true,Qg 115 (.mv (.t 18)) 114 false,Qg 116 (.mv (.t 13)) 114 false,Qg 117 (.bin .eql (.t 115) (.t 116)) 114 false,
   Qg 118 (.pick (.t 114) (kB true) (.t 117)) 111 true,Q 119 (.pick (.t 111) (.t 118) (kB false)),Qm 120 119,Qg 121 (.mv (.t 6)) 120 true,Qg 122 (.not (.t 121)) 120 true,
   Qg 123 (.mv (.t 122)) 120 true,Qg 124 (.mv (.t 10)) 123 false,Qg 125 (.pick (.t 123) (kB true) (.t 124)) 120 true,Q 126 (.pick (.t 120) (.t 125) (kB false)),Qm 2 126] [2] [])
 (.ret))))))))))))
def c_.m:Fn:={np:=1,body:=c_.b,res:=[.tmp 2]}
def c_.k(M:Nat→Option Body):Prop:=M 502=some (.code c_.m)∧lD.k M∧aX.k M∧aP.k M∧fh.k M∧eR.k M∧gw.k M∧gk.k M∧cW.k M∧cX.k M∧gC.k M∧cI.k M
def kY(l:List Int)(x:Int):List Int:=l.filter (fun y=>decide (y<x))++[x]++l.filter (fun y=>decide (x<y))
def j8(l:List Int)(x:Int):List Int:=if x∈l then l else kY l x
def aV(a b:List Int):List Int:=(a++b).foldl j8 []
abbrev ym(l:List Int):Prop:=l.Pairwise (·<·)
theorem zY:∀{a b:List Int},ym a→ym b→(∀x,x∈a↔x∈b)→a=b
 |[],[],_,_,_=>rfl
 |[],y::b,_,_,h=>absurd ((h y).2 (bh ..)) (by simp)
 |x::a,[],_,_,h=>absurd ((h x).1 (bh ..)) (by simp)
 |x::a,y::b,ha,hb,h=>by
  obtain⟨ha1,ha2⟩:=List.pairwise_cons.1 ha;obtain⟨hb1,hb2⟩:=List.pairwise_cons.1 hb;have e:x=y:=by
   rcases List.mem_cons.1 ((h x).1 (bh ..)) with q|q
   ·exact q
   ·rcases List.mem_cons.1 ((h y).2 (bh ..)) with q'|q'
    ·exact q'.symm
    ·have:=ha1 y q';have:=hb1 x q;omega
  subst e;congr 1;refine zY ha2 hb2 fun z=>⟨fun hz=> ?_,fun hz=> ?_⟩
  ·rcases List.mem_cons.1 ((h z).1 (bq _ hz)) with q|q
   ·have:=ha1 z hz;omega
   ·exact q
  ·rcases List.mem_cons.1 ((h z).2 (bq _ hz)) with q|q
   ·have:=hb1 z hz;omega
   ·exact q
theorem nT{l:List Int}{x z:Int}:z∈kY l x↔z=x∨z∈l:=by
 simp only[kY,iu,fJ,decide_eq_true_eq,fy];constructor
 ·rintro ((⟨h,_⟩|h)|⟨h,_⟩)
  ·exact .inr h
  ·exact .inl h
  ·exact .inr h
 ·rintro (h|h)
  ·exact .inl (.inr h)
  ·by_cases c:z<x
   ·exact .inl (.inl ⟨h,c⟩)
   ·by_cases c2:z=x
    ·exact .inl (.inr c2)
    ·exact .inr ⟨h,by omega⟩
theorem tQ{l:List Int}{x:Int}(h:ym l):ym (kY l x):=by
 simp only[kY,ym,List.pairwise_append,List.pairwise_singleton,fJ,decide_eq_true_eq,fy,iu];refine⟨⟨h.filter _,trivial, ?_⟩,h.filter _, ?_⟩
 ·rintro a ⟨_,ha⟩ b rfl;exact ha
 ·rintro a (⟨_,ha⟩|rfl) b ⟨_,hb⟩<;>omega
theorem F5{l:List Int}{x z:Int}:z∈j8 l x↔z=x∨z∈l:=by
 unfold j8;split
 ·rename_i h;constructor
  ·exact .inr
  ·rintro (rfl|q)
   ·exact h
   ·exact q
 ·exact nT
theorem F6{l:List Int}{x:Int}(h:ym l):ym (j8 l x):=by
 unfold j8;split
 ·exact h
 ·exact tQ h
theorem yQ:∀(l acc:List Int) (z:Int),z∈l.foldl j8 acc↔z∈l∨z∈acc
 |[],acc,z=>by simp
 |x::l,acc,z=>by
  simp only[ff,yQ l,F5,ug];constructor
  ·rintro (h|h|h)
   ·exact .inl (.inr h)
   ·exact .inl (.inl h)
   ·exact .inr h
  ·rintro ((h|h)|h)
   ·exact .inr (.inl h)
   ·exact .inl h
   ·exact .inr (.inr h)
theorem yR:∀(l acc:List Int),ym acc→ym (l.foldl j8 acc)
 |[],acc,h=>h
 |x::l,acc,h=>yR l _ (F6 h)
theorem nS(a b:List Int):ym (aV a b):=yR _ _ List.Pairwise.nil
theorem iU(a b:List Int)(z:Int):z∈aV a b↔z∈a∨z∈b:=by unfold aV;rw[yQ];simp
theorem xp(l:List Int)(x:Int):(j8 l x).length≤l.length+1:=by
 unfold j8;split
 ·omega
 ·simp only[kY,aC,bU];have:∀l:List Int,(l.filter fun y=>decide (y<x)).length+(l.filter fun y=>decide (x<y)).length≤l.length:=by
   intro l
   induction l with
   |nil=>simp
   |cons y l ih=>
    simp only[iP];by_cases h1:y<x
    ·have h2:¬x<y:=by omega
     simp[h1,h2];omega
    ·by_cases h2:x<y
     ·simp[h1,h2];omega
     ·simp[h1,h2];omega
  have:=this l;omega
theorem sf:∀(l acc:List Int),(l.foldl j8 acc).length≤l.length+acc.length
 |[],acc=>by simp
 |x::l,acc=>by
  have h1:=sf l (j8 acc x);have h2:=xp acc x;simp only[ff,bT];omega
def dedup:List Int→List Int
 |[]=>[]
 |x::l=>x::(go x l)
where go:Int→List Int→List Int
 |_,[]=>[]
 |p,x::l=>if x=p then go x l else x::go x l
theorem qH:∀(l:List Int) (p z:Int),z∈dedup.go p l→z∈l
 |[],p,z,h=>by simp[dedup.go] at h
 |x::l,p,z,h=>by
  simp only[dedup.go] at h;split at h
  ·exact bq _ (qH l x z h)
  ·rcases List.mem_cons.1 h with rfl|h
   ·exact bh ..
   ·exact bq _ (qH l x z h)
theorem qx:∀(l:List Int) (p z:Int),z∈l→z=p∨z∈dedup.go p l
 |[],p,z,h=>by simp at h
 |x::l,p,z,h=>by
  simp only[dedup.go];split
  ·rename_i e;subst e;rcases List.mem_cons.1 h with q|q
   ·exact .inl q
   ·exact qx l x z q
  ·rcases List.mem_cons.1 h with q|q
   ·exact .inr (by rw[q];exact bh ..)
   ·rcases qx l x z q with q|q
    ·exact .inr (by rw[q];exact bh ..)
    ·exact .inr (bq _ q)
theorem tW:∀(l:List Int) (p:Int),l.Pairwise (·≤·)→(∀z∈l,p≤z)→ym (dedup.go p l)∧∀z∈dedup.go p l,p<z
 |[],p,_,_=>by simp[dedup.go]
 |x::l,p,h,hp=>by
  obtain⟨h1,h2⟩:=List.pairwise_cons.1 h;have hx:=hp x (bh ..);obtain⟨k1,k2⟩:=tW l x h2 h1;simp only[dedup.go];split
  ·rename_i e;exact⟨k1,fun z hz=>by have:=k2 z hz;omega⟩
  ·rename_i e;refine⟨List.pairwise_cons.2 ⟨k2,k1⟩,fun z hz=> ?_⟩;rcases List.mem_cons.1 hz with rfl|hz
   ·omega
   ·have:=k2 z hz;omega
theorem Ep{l:List Int}(h:l.Pairwise (·≤·)):ym (dedup l):=by
 cases l with
 |nil=>exact List.Pairwise.nil
 |cons x l=>
  obtain⟨h1,h2⟩:=List.pairwise_cons.1 h;obtain⟨k1,k2⟩:=tW l x h2 h1;exact List.pairwise_cons.2 ⟨k2,k1⟩
theorem Eo{l:List Int}{z:Int}:z∈dedup l↔z∈l:=by
 cases l with
 |nil=>simp[dedup]
 |cons x l=>
  simp only[dedup,ug];constructor
  ·rintro (h|h)
   ·exact .inl h
   ·exact .inr (qH l x z h)
  ·rintro (h|h)
   ·exact .inl h
   ·exact qx l x z h
theorem yh(l:List Int):Lib.compact l=dedup l:=by
 have key:∀(d:Array Int) (m:Nat) (l:List Int) (p:Int),0<m→m+l.length=d.size→d.toList.drop m=l→d[m-1]! =p→((List.range' m l.length).filter (Lib.keeps d)).map (d[·]!)=dedup.go p l:=by
  intro d m l
  induction l generalizing m with
  |nil=>intro p _ _ _ _;rfl
  |cons x l ih=>
   intro p hm hl hd hp;have hlt:m<d.size:=by simp at hl;omega
   have hx:d[m]! =x:=by
    rw[getElem!_pos d m hlt];have:=congrArg (·[0]?) hd;simpa [hlt] using this
   have ih':=ih (m+1) x (by omega) (by simp at hl;omega) (by rw[←List.tail_drop,hd];rfl) (by simpa using hx);simp only[bT,List.range'_succ,iP,dedup.go];by_cases e:x=p
   ·have hk:Lib.keeps d m=false:=Lib.keeps_neg hm (by rw[hx,hp,e]);rw[if_pos e,hk];simpa using ih'
   ·have hk:Lib.keeps d m=true:=Lib.keeps_pos (by rw[hx,hp];exact e);rw[if_neg e,hk];simp only[if_true,bB,hx,ih']
 cases l with
 |nil=>rfl
 |cons x l=>
  have hk:Lib.keeps (x::l).toArray 0=true:=Lib.keeps_lt_one _ 0 (by omega);unfold Lib.compact Lib.compactUpTo;rw[List.range_eq_range',bT,List.range'_succ,iP,hk];simp only[if_true,bB,dedup];congr 1;exact key (x::l).toArray 1 l x (by omega) (by simp;omega) (by simp) (by simp)
theorem A3(l:List Int):(Lib.compact l).length≤l.length:=by
 unfold Lib.compact Lib.compactUpTo;rw[gD];refine Nat.le_trans (bV _ _) ?_;simp
theorem sM(a b:List Int):Lib.compact (lT (a++b))=aV a b:=by
 rw[yh];have hs:(lT (a++b)).Pairwise (·≤·):=by
  have:=List.pairwise_mergeSort (le:=fun x y:Int=>decide (x≤y)) (fun a b c h1 h2=>by simp only[decide_eq_true_eq] at*;omega) (fun a b=>by simp only[Bool.or_eq_true,decide_eq_true_eq];omega) (a++b);exact this.imp fun h=>by simpa using h
 refine zY (Ep hs) (nS a b) fun z=> ?_
 rw[Eo,iU];simp[lT]
end Mx
namespace Mx
open Go
variable {M:Nat→Option Body}
theorem fj.al(h:fj.k M)(l:List Int)(hx:l.length≤1048576):run M 134 [.c (ints l)] []=some (.c (.sl true 1 (ax l)),[]):=by
 have h1:l.length≤4294967296:=by omega
 refine ao (b:=fj.m) h ⟨0, ?_⟩;simp[a8,fj.m,fj.b,aa,ab,h1]
end Mx
namespace Mx
open Go
theorem wrap_u8(x:Int):IntKind.u8.wrap x=x%256:=by
 unfold IntKind.wrap;simp[IntKind.bits,IntKind.signed]
theorem wrap_u32(x:Int):IntKind.u32.wrap x=x%4294967296:=by
 unfold IntKind.wrap;simp[IntKind.bits,IntKind.signed]
theorem wh(k:IntKind)(x y:Int):ud k x y=k.wrap (((x%((2^k.bits:Nat):Int)).toNat&&&(y%((2^k.bits:Nat):Int)).toNat:Nat):Int):=by
 unfold ud;rw[BitVec.toNat_and,BitVec.toNat_ofInt,BitVec.toNat_ofInt]
theorem Kd(k:IntKind)(x y:Int):EP k x y=k.wrap (((x%((2^k.bits:Nat):Int)).toNat|||(y%((2^k.bits:Nat):Int)).toNat:Nat):Int):=by
 unfold EP;rw[BitVec.toNat_or,BitVec.toNat_ofInt,BitVec.toNat_ofInt]
theorem I4(n m:Nat)(hn:n<9223372036854775808)(hm:m<9223372036854775808):ud .i64 n m=((n&&&m:Nat):Int):=by
 rw[wh];have e:∀k:Nat,k<9223372036854775808→((k:Int)%((2^IntKind.i64.bits:Nat):Int)).toNat=k:=by
  intro k hk;show ((k:Int)%18446744073709551616).toNat=k;omega
 rw[e n hn,e m hm];have:n&&&m≤n:=Nat.and_le_left;exact wrap_i64 (by omega) (by omega)
theorem wM(n m:Nat)(hn:n<9223372036854775808)(hm:m<9223372036854775808):EP .i64 n m=((n|||m:Nat):Int):=by
 rw[Kd];have e:∀k:Nat,k<9223372036854775808→((k:Int)%((2^IntKind.i64.bits:Nat):Int)).toNat=k:=by
  intro k hk;show ((k:Int)%18446744073709551616).toNat=k;omega
 rw[e n hn,e m hm];have:n|||m<2^63:=Nat.or_lt_two_pow (by omega) (by omega)
 exact wrap_i64 (by omega) (by omega)
theorem KN(n m:Nat)(hn:n<256)(hm:m<256):ud .u8 n m=((n&&&m:Nat):Int):=by
 rw[wh];have e:∀k:Nat,k<256→((k:Int)%((2^IntKind.u8.bits:Nat):Int)).toNat=k:=by
  intro k hk;show ((k:Int)%256).toNat=k;omega
 rw[e n hn,e m hm,wrap_u8];have:n&&&m≤n:=Nat.and_le_left;omega
theorem DA(n:Nat):n&&&127=n%128:=Nat.and_two_pow_sub_one_eq_mod n 7
theorem Kb(n:Nat)(h:n<128):n|||128=n+128:=by
 have:=Nat.two_pow_add_eq_or_of_lt (i:=7) (b:=n) h 1;rw[Nat.or_comm];have e:2^7*1=128:=by decide
 rw[e] at this;omega
theorem HJ(n d k:Nat)(h:n<128^k):n|||d*128^k=n+d*128^k:=by
 have e:(128:Nat)^k=2^(7*k):=by rw[show (128:Nat)=2^7 by decide,←Nat.pow_mul]
 rw[e] at h ⊢;have:=Nat.two_pow_add_eq_or_of_lt (i:=7*k) (b:=n) h d;rw[Nat.or_comm,Nat.mul_comm d,←this,Nat.add_comm]
theorem Gr:lq []=[]:=rfl
theorem Dt(b:UInt8):[[T.int .u8 (b.toNat:Int)]]=lq [b]:=rfl
theorem ofNat_toNat(n:Nat):((UInt8.ofNat n).toNat:Int)=(n:Int)%256:=by simp
attribute [simp] Gr
end Mx
namespace Mx
open Go
variable {M:Nat→Option Body}
theorem cj.al(h:cj.k M)(n a b:Int):run M 101 [.c (I n),.c (I a),.c (I b)] []=some (.c (.bool (decide (a≤n)&&decide (n≤b))),[]):=by
 refine ao (b:=cj.m) h ⟨0, ?_⟩;by_cases h:a≤n
 ·have h':n≥a:=h;simp[a8,cj.m,cj.b,aa,h]
 ·have h':¬n≥a:=h;simp[a8,cj.m,cj.b,aa,h]
theorem bY.al(h:bY.k M)(n a b:Int):run M 98 [.c (I n),.c (I a),.c (I b)] []=some (.c (.bool (decide (a≤n)&&decide (n≤b))),[]):=by
 refine ao (b:=bY.m) h ⟨0, ?_⟩;by_cases h:a≤n
 ·have h':n≥a:=h;simp[a8,bY.m,bY.b,aa,h]
 ·have h':¬n≥a:=h;simp[a8,bY.m,bY.b,aa,h]
def oK(n:Nat):List UInt8×Nat:=if n>127 then let r:=oK (n/128);(UInt8.ofNat (n%128+128)::r.1,r.2) else([],n)
termination_by n
decreasing_by omega
theorem re{n:Nat}(h:¬n>127):oK n=([],n):=by rw[oK,if_neg h]
theorem rX{n:Nat}(h:n>127):oK n=(UInt8.ofNat (n%128+128)::(oK (n/128)).1,(oK (n/128)).2):=by rw[oK,if_pos h]
def iK(n:Nat):List UInt8:=(oK n).1++[UInt8.ofNat (oK n).2]
theorem rh:∀(k n:Nat),n<128^k→(oK n).1.length≤k:=by
 intro k
 induction k with
 |zero=>intro n h;have:n=0:=by simpa using h
        subst this;rw[re (by omega)];simp
 |succ k ih=>
  intro n h;by_cases hc:n>127
  ·rw[rX hc];have:=ih (n/128) (by rw[Nat.pow_succ] at h;omega);simp;omega
  ·rw[re hc];simp
theorem kL{n:Nat}(h:n≤9223372036854775807):(iK n).length≤10:=by
 have:=rh 9 n (by omega);simp[iK];omega
def EO(a b c:Nat)(s:Nat×List UInt8)(x:Nat×Nat):St:={t:=[(0,.c (I s.1)),(b,.c (.row a x.1 0 s.2.length))],o:=[(a,⟨x.1,1,true,false,lq s.2⟩)],n:=x.2}
def Hf(s:Nat×List UInt8):Prop:=s.1≤9223372036854775807∧∃k,s.1<128^k∧s.2.length+k≤20
theorem yn{n:Nat}{acc:List UInt8}(h:Hf (n,acc))(hc:n>127)(b:UInt8):Hf (n/128,acc++[b]):=by
 obtain⟨h1,k,h2,h3⟩:=h;simp only at h1 h2 h3;cases k with
 |zero=>simp at h2;omega
 |succ k=>exact⟨by simp only;omega,k,by simp only;rw[Nat.pow_succ] at h2;omega,by simp;omega⟩
theorem bG.al(h:bG.k M)(n:Nat)(hn:n≤9223372036854775807):run M 99 [.c (I n)] []=some (.c (S (iK n)),[]):=by
 refine ao (b:=bG.m) h ⟨n+1, ?_⟩;obtain⟨g,hr⟩:=jP (f:=cy (run M) (n+1) bG.l0) (EO 4 3 6) Hf (fun s=>s.1) (fun s=>(s.2++(oK s.1).1,(oK s.1).2))
  (fun q (m:Nat×Nat)=>(.exit 0,{t:=[(0,.c (I q.2)),(3,.c (.row 4 m.1 0 q.1.length)),(6,.c (.bool false))],o:=[(4,⟨m.1,1,true,false,lq q.1⟩)],n:=m.2}))
  (by
   rintro ⟨i,acc⟩ ⟨v,x⟩ hi;by_cases hc:i>127
   ·left;have hb:=hi.1;obtain⟨k,hk1,hk2⟩:=hi.2;simp only at hb hk1 hk2;have e1:IntKind.i64.wrap ((i:Int).tmod 128+128)=((i%128+128:Nat):Int):=by
     rw[Int.tmod_eq_emod_of_nonneg (by omega),wrap_i64 (by omega) (by omega)];omega
    have e2:IntKind.i64.wrap ((i:Int)/128)=(i:Int)/128:=wrap_i64 (by omega) (by omega);have e3:IntKind.u8.wrap ((i%128+128:Nat):Int)=((UInt8.ofNat (i%128+128)).toNat:Int):=by rw[ofNat_toNat,wrap_u8]
    have hc':(127:Int)<i:=by omega
    have e4:acc.length+1≤4294967296:=by omega
    generalize hb:UInt8.ofNat (i%128+128)=b at e3;obtain⟨y,hy⟩:∃y,cy (run M) (n+1) bG.l0 (EO 4 3 6 (i,acc) (v,x))=some (.normal,EO 4 3 6 (i/128,acc++[b]) y):=by
     simp only[aH];simp only[EO,bG.l0];simp only[Int.natCast_add,Int.natCast_emod,aM] at e1 e3;simp[hc',e1,e2,e3,e4,Dt,ab]
    refine⟨(i/128,acc++[b]),y,hy,yn hi hc b,by simp only;omega, ?_⟩;simp only[rX hc,hb,ct,List.cons_append,List.nil_append]
   ·right;have hc':¬(127:Int)<i:=by omega
    refine⟨(v,x+32), ?_,by simp⟩;simp only[re hc,eM];simp[EO,bG.l0,hc'])
  (n+1) (n,[]) ⟨hn,9,by simp only;omega,by simp⟩ (by simp)
 have hl:=rh 9 n (by omega);have e3:IntKind.u8.wrap ((oK n).2:Int)=((UInt8.ofNat (oK n).2).toNat:Int):=by rw[ofNat_toNat,wrap_u8]
 have e4:(oK n).1.length+1≤4294967296:=by omega
 simp only[List.nil_append] at hr;simp[EO,-List.nil_append] at hr;generalize hb:UInt8.ofNat (oK n).2=b at e3;have hv:iK n=(oK n).1++[b]:=by rw[←hb];rfl
 rw[hv];simp[a8,bG.m,bG.b,aa,hr,e3,e4,Dt,ab]
theorem Ka(n:Nat)(h:n<9223372036854775808):EP .i64 (ud .i64 n 127) 128=((n%128+128:Nat):Int):=by
 have e1:=I4 n 127 h (by omega);have e2:=wM (n%128) 128 (by omega) (by omega);rw[DA] at e1;rw[Kb _ (by omega)] at e2;rw[show (127:Int)=((127:Nat):Int) from rfl,e1];exact e2
theorem cT.al(h:cT.k M)(n:Nat)(hn:n≤9223372036854775807):run M 230 [.c (I n)] []=some (.lL [.c (S (if n≤1000000000 then iK n else [])),.c (.bool (decide (n≤1000000000)))],[]):=by
 have hw:=cj.al h.2 n 0 1000000000;refine ao (b:=cT.m) h.1 ⟨n+1, ?_⟩;by_cases hm:n≤1000000000;rotate_left
 ·have hm':¬(n:Int)≤1000000000:=by omega
  simp[hm'] at hw;simp[a8,cT.m,cT.b,aa,hw,hm]
 have hm':(n:Int)≤1000000000:=by omega
 simp[hm'] at hw;obtain⟨g,hr⟩:=jP (f:=cy (run M) (n+1) cT.l0) (EO 8 4 10) Hf (fun s=>s.1) (fun s=>(s.2++(oK s.1).1,(oK s.1).2))
  (fun q (m:Nat×Nat)=>(.exit 0,{t:=[(0,.c (I q.2)),(4,.c (.row 8 m.1 0 q.1.length)),(10,.c (.bool false))],o:=[(8,⟨m.1,1,true,false,lq q.1⟩)],n:=m.2}))
  (by
   rintro ⟨i,acc⟩ ⟨v,x⟩ hi;by_cases hc:i>127
   ·left;have hb:=hi.1;obtain⟨k,hk1,hk2⟩:=hi.2;simp only at hb hk1 hk2;have e1:=Ka i (by omega);have e2:(i:Int).fdiv 128=((i/128:Nat):Int):=by
     rw[Int.fdiv_eq_ediv_of_nonneg _ (by omega)];omega
    have e3:IntKind.u8.wrap ((i%128+128:Nat):Int)=((UInt8.ofNat (i%128+128)).toNat:Int):=by rw[ofNat_toNat,wrap_u8]
    have hc':(127:Int)<i:=by omega
    have e4:acc.length+1≤4294967296:=by omega
    generalize hb:UInt8.ofNat (i%128+128)=b at e3;obtain⟨y,hy⟩:∃y,cy (run M) (n+1) cT.l0 (EO 8 4 10 (i,acc) (v,x))=some (.normal,EO 8 4 10 (i/128,acc++[b]) y):=by
     simp only[aH];simp only[EO,cT.l0];simp only[Int.natCast_add,Int.natCast_emod,aM] at e1 e3;simp[hc',e1,e2,e3,e4,Dt,ab,IntKind.bits]
    refine⟨(i/128,acc++[b]),y,hy,yn hi hc b,by simp only;omega, ?_⟩;simp only[rX hc,hb,ct,List.cons_append,List.nil_append]
   ·right;have hc':¬(127:Int)<i:=by omega
    refine⟨(v,x+32), ?_,by simp⟩;simp only[re hc,eM];simp[EO,cT.l0,hc'])
  (n+1) (n,[]) ⟨hn,9,by simp only;omega,by simp⟩ (by simp)
 have hl:=rh 9 n (by omega);have e3:IntKind.u8.wrap ((oK n).2:Int)=((UInt8.ofNat (oK n).2).toNat:Int):=by rw[ofNat_toNat,wrap_u8]
 have e4:(oK n).1.length+1≤4294967296:=by omega
 simp only[List.nil_append] at hr;simp[EO,-List.nil_append] at hr;generalize hb:UInt8.ofNat (oK n).2=b at e3;have hv:iK n=(oK n).1++[b]:=by rw[←hb];rfl
 rw[hv];simp[a8,cT.m,cT.b,aa,hr,hw,hm,e3,e4,Dt,ab]
def kR(l:List UInt8):List UInt8:=iK l.length++l
theorem gg.al(h:gg.k M)(l:List UInt8)(hl:l.length≤4611686018427387904):run M 205 [.c (S l)] []=some (.lL [.c (S (if 20000<l.length then [] else kR l)),.c (.bool (!decide (20000<l.length)))],[]):=by
 have h1:=cT.al h.2 l.length (by omega);refine ao (b:=gg.m) h.1 ⟨0, ?_⟩;by_cases c:20000<l.length
 ·have c':20000<(l.length:Int):=by omega
  simp[a8,gg.m,gg.b,aa,c,c']
 ·have c':¬20000<(l.length:Int):=by omega
  have c2:l.length≤1000000000:=by omega
  have hv:=kL (n:=l.length) (by omega);simp only[c2,if_true,decide_true] at h1;simp (disch:=(first|omega|(simp;done)|(simp;omega))) [a8,gg.m,gg.b,aa,c,c',h1,kR,fT]
theorem jQ.al(h:jQ.k M)(l:List UInt8)(hl:l.length≤20000):run M 102 [.c (S l)] []=some (.c (S (kR l)),[]):=by
 have h1:=gg.al h.2 l (by omega);have c:¬20000<l.length:=by omega
 refine ao (b:=jQ.m) h.1 ⟨0, ?_⟩;simp only[c,if_false] at h1;simp[a8,jQ.m,jQ.b,aa,h1]
structure mB where
 val:Int
 time:Int
 eD:Int
structure bp where
 gid:Int
 uid:Int
 flags:List mB
 text:List UInt8
structure bz where
 gid:Int
 name:List UInt8
 time:Int
 eD:Int
 next:Int
 ae:List bp
 gone:List Int
abbrev aF(r:mB):List T:=[I r.val,I r.time,I r.eD]
abbrev jE(l:List mB):T:= .sl false 3 (l.map aF)
abbrev ah(m:bp):List T:=[I m.gid,I m.uid,jE m.flags,S m.text]
abbrev ae(l:List bp):T:= .sl false 4 (l.map ah)
abbrev af(b:bz):List T:=[I b.gid,S b.name,I b.time,I b.eD,I b.next,ae b.ae,ints b.gone]
abbrev iW(m:bp):List T:=[I m.gid,I m.uid,.sl true 3 (m.flags.map aF),S m.text]
abbrev bM(b:bz):List T:=[I b.gid,S b.name,I b.time,I b.eD,I b.next,.sl true 4 (b.ae.map ah),.sl true 1 (ax b.gone)]
theorem Iz{k:IntKind}{u:T}(h:Has (.int k) u):∃n,u= .int k n:=by cases h;exact⟨_,rfl⟩
def CE(l:List bp)(g:Int):Nat→Nat→Option Nat
 |0,_=>none
 |d+1,i=>if h:i<l.length then(if l[i].gid=g then some i else CE l g d (i+1)) else none
def gh(l:List bp)(g:Int):Option Nat:=CE l g l.length 0
def dN:Option Nat→Int
 |some i=>i
 |none=> -1
theorem uO(l:List bp)(g:Int):∀d i k,CE l g d i=some k→k<l.length
 |0,i,k,h=>by simp[CE] at h
 |d+1,i,k,h=>by
  rw[CE] at h;by_cases hl:i<l.length
  ·rw[dif_pos hl] at h;split at h
   ·cases h;exact hl
   ·exact uO l g d (i+1) k h
  ·rw[dif_neg hl] at h;cases h
def jU(q:Option Nat)(m:St):Out×St:=match q with
 |some i=>(.ret,{t:=[(4,.c (I i))],o:=[],n:=m.n})
 |none=>(.exit 0,m)
theorem po(q:Option Nat)(m:St):(jU q m).1≠.normal:=by cases q<;>simp[jU]
theorem Dw{f:St→Option (Out×St)}{β:Type}(l:List bp)(g:Int)(S:Nat→β→St)
  (h1:∀i (h:i<l.length) x,l[i].gid=g→∃m,f (S i x)=some (jU (some i) m)) (h2:∀i (h:i<l.length) x,¬l[i].gid=g→∃y,f (S i x)=some (.normal,S (i+1) y))
  (h3:∀x,∃m,f (S l.length x)=some (jU none m)):∃g':β→St,∀x,fi f (l.length+1) (S 0 x)=some (jU (gh l g) (g' x)):=by
 refine jP (f:=f) S (fun i=>i≤l.length) (fun i=>l.length-i) (fun i=>CE l g (l.length-i) i) jU ?_ (l.length+1) 0 (Nat.zero_le _) (by omega);intro i x hi;by_cases hlt:i<l.length
 ·have hd:l.length-i=(l.length-(i+1))+1:=by omega
  have hg:CE l g (l.length-i) i=if l[i].gid=g then some i else CE l g (l.length-(i+1)) (i+1):=by rw[hd,CE,dif_pos hlt]
  simp only[hg];by_cases c:l[i].gid=g
  ·right;obtain⟨m,hm⟩:=h1 i hlt x c;rw[if_pos c];exact⟨m,hm,po _ _⟩
  ·left;obtain⟨y,hy⟩:=h2 i hlt x c;rw[if_neg c];exact⟨i+1,y,hy,hlt,by omega,rfl⟩
 ·have:i=l.length:=by omega
  subst this;right;obtain⟨m,hm⟩:=h3 x;simp only[Nat.sub_self,CE];exact⟨m,hm,po _ _⟩
def yy(b:bz)(g:Int)(i:Nat)(x:Nat×Nat):St:={t:=[(1,.c (I g)),(2,.c (.ptr 2 x.1 0 0)),(5,.c (I i))],o:=[(2,⟨x.1,7,true,true,[af b]⟩)],n:=x.2}
theorem bP.al(h:bP.k M)(b:bz)(g:Int)(hb:b.ae.length≤1048576):run M 91 [.a (af b),.c (I g)] []=some (.c (I (dN (gh b.ae g))),[]):=by
 refine ao (b:=bP.m) h ⟨b.ae.length+1, ?_⟩;obtain⟨g',hr⟩:=Dw (f:=cy (run M) (b.ae.length+1) bP.l0) b.ae g (yy b g)
  (fun i hi x c=>by
   obtain⟨v,x⟩:=x;simp[yy,bP.l0,hi,c,ah,jU];exact⟨⟨[],[],_⟩,rfl⟩)
  (fun i hi x c=>by
   obtain⟨v,x⟩:=x;have e5:=cz (i:=i) (by omega);simp only[aH];simp[yy,bP.l0,hi,c,ah,e5])
  (fun x=>by
   obtain⟨v,x⟩:=x;simp[yy,bP.l0,jU])
 cases hm:gh b.ae g with
 |none=>
  simp[yy,hm,jU] at hr;simp[a8,bP.m,bP.b,aa,hr,dN]
 |some k=>
  simp[yy,hm,jU] at hr;simp[a8,bP.m,bP.b,aa,hr,dN]
theorem gN.al(h:gN.k M)(m:bp)(g:Int):run M 160 [.a (ah m),.c (.vp [I g] 0)] []=some (.c (.bool (decide (m.gid=g))),[]):=by
 refine ao (b:=gN.m) h ⟨0, ?_⟩;simp[a8,gN.m,gN.b,aa]
def Lh(l:List bp)(g:Int)(i:Nat)(x:Nat):St:={t:=[(0,.c (ae l)),(1,.c (.fn 160 [.vp [I g] 0])),(7,.c (I l.length)),(8,.c (I i))],o:=[],n:=x}
theorem aB.al(h:aB.k M)(h2:gN.k M)(l:List bp)(g:Int)(hl:l.length≤1048576):
  run M 161 [.c (ae l),.c (.fn 160 [.vp [I g] 0])] []=some (.c (I (dN (gh l g))),[]):=by
 refine ao (b:=aB.m) h ⟨l.length+1, ?_⟩;obtain⟨g',hr⟩:=Dw (f:=cy (run M) (l.length+1) aB.l0) l g (Lh l g)
  (fun i hi x c=>by
   have hm:=gN.al h2 l[i] g;rw[decide_eq_true c] at hm;simp[Lh,aB.l0,hi,hm,ah,jU];exact⟨⟨[],[],_⟩,rfl⟩)
  (fun i hi x c=>by
   have hm:=gN.al h2 l[i] g;rw[decide_eq_false c] at hm;have e5:=cz (i:=i) (by omega);simp[Lh,aB.l0,hi,hm,ah,e5])
  (fun x=>by simp[Lh,aB.l0,jU])
 cases hm:gh l g with
 |none=>
  simp[Lh,hm,jU] at hr;simp[a8,aB.m,aB.b,aa,hr,dN]
 |some k=>
  simp[Lh,hm,jU] at hr;simp[a8,aB.m,aB.b,aa,hr,dN]
theorem cJ.al(h:cJ.k M)(b:bz)(g:Int)(hb:b.ae.length≤1048576):run M 72 [.a (af b),.c (I g)] []=some (.c (I (dN (gh b.ae g))),[]):=by
 have h1:=aB.al h.2.2 h.2.1 b.ae g hb;refine ao (b:=cJ.m) h.1 ⟨0, ?_⟩;simp[a8,cJ.m,cJ.b,aa,h1]
def holds(b:bz)(g:Int):Bool:=decide (0≤dN (gh b.ae g))
theorem jf.al(h:jf.k M)(b:bz)(g:Int)(hb:b.ae.length≤1048576):run M 20 [.a (af b),.c (I g)] []=some (.c (.bool (holds b g)),[]):=by
 have h1:=cJ.al h.2 b g hb;refine ao (b:=jf.m) h.1 ⟨0, ?_⟩;simp[a8,jf.m,jf.b,aa,h1,holds,ab]
end Mx
namespace Mx
open Go
def nU(p:Nat→Bool):Nat→Nat→Option Nat
 |0,_=>none
 |d+1,i=>if p i=true then some i else nU p d (i+1)
def eE(p:Nat→Bool)(n:Nat):Option Nat:=nU p n 0
theorem vt(p:Nat→Bool):∀d i,nU p d i=none→∀j,i≤j→j<i+d→p j=false
 |0,i,_,j,h1,h2=>by omega
 |d+1,i,h,j,h1,h2=>by
  rw[nU] at h;split at h
  ·cases h
  ·by_cases e:j=i
   ·subst e;simpa using ‹¬p j=true›
   ·exact vt p d (i+1) h j (by omega) (by omega)
theorem vr(p:Nat→Bool):∀d i k,nU p d i=some k→i≤k∧k<i+d∧p k=true∧∀j,i≤j→j<k→p j=false
 |d+1,i,k,h=>by
  rw[nU] at h;split at h
  ·cases h;exact⟨by omega,by omega,‹_›,fun j h1 h2=>by omega⟩
  ·obtain⟨h1,h2,h3,h4⟩:=vr p d (i+1) k h;refine⟨by omega,by omega,h3,fun j h5 h6=> ?_⟩;by_cases e:j=i
   ·subst e;simpa using ‹¬p j=true›
   ·exact h4 j (by omega) h6
theorem mg{p:Nat→Bool}{n:Nat}(h:eE p n=none):∀j,j<n→p j=false:=fun j hj=>vt p n 0 h j (by omega) (by omega)
theorem mf{p:Nat→Bool}{n k:Nat}(h:eE p n=some k):k<n∧p k=true∧∀j,j<k→p j=false:=by
 obtain⟨_,h2,h3,h4⟩:=vr p n 0 k h;exact⟨by omega,h3,fun j hj=>h4 j (by omega) hj⟩
theorem iN{p:Nat→Bool}{n:Nat}:eE p n=none↔∀j,j<n→p j=false:=by
 refine⟨mg,fun h=> ?_⟩;cases q:eE p n with
 |none=>rfl
 |some k=>
  obtain⟨h1,h2,_⟩:=mf q;rw[h k h1] at h2;cases h2
theorem mW{γ β:Type}(n:Nat)(p:Nat→Bool){f:St→Option (Out×St)}(S:Nat→β→St)(fin:Option Nat→γ→Out×St)(hfin:∀q m,(fin q m).1≠.normal)
  (h1:∀i,i<n→∀x,p i=false→∃y,f (S i x)=some (.normal,S (i+1) y)) (h2:∀i,i<n→∀x,p i=true→∃m,f (S i x)=some (fin (some i) m))
  (h3:∀x,∃m,f (S n x)=some (fin none m)):∃g:β→γ,∀x,fi f (n+1) (S 0 x)=some (fin (eE p n) (g x)):=by
 refine jP (f:=f) S (fun i=>i≤n) (fun i=>n-i) (fun i=>nU p (n-i) i) fin ?_ (n+1) 0 (Nat.zero_le _) (by omega);intro i x hi;by_cases hlt:i<n
 ·have hd:n-i=(n-(i+1))+1:=by omega
  have hg:nU p (n-i) i=if p i=true then some i else nU p (n-(i+1)) (i+1):=by rw[hd,nU]
  simp only[hg];by_cases c:p i=true
  ·right;obtain⟨m,hm⟩:=h2 i hlt x c;rw[if_pos c];exact⟨m,hm,hfin _ _⟩
  ·left;obtain⟨y,hy⟩:=h1 i hlt x (by simpa using c);rw[if_neg c];exact⟨i+1,y,hy,hlt,by omega,rfl⟩
 ·have:i=n:=by omega
  subst this;right;obtain⟨m,hm⟩:=h3 x;simp only[Nat.sub_self,nU];exact⟨m,hm,hfin _ _⟩
theorem gP{f:St→Option (Out×St)}{n m:Nat}{s:St}{r:Out×St}(h:fi f n s=some r)(hm:n≤m):fi f m s=some r:=qz (fun _ _ h=>h) hm h
def lv{β:Type}(r:Nat)(w:T)(e:Nat)(E:β→St)(q:Option Nat)(m:β×Nat):Out×St:=match q with
 |none=>(.exit e,E m.1)
 |some _=>(.ret,{t:=[(r,.c w)],o:=[],n:=m.2})
theorem iE{β:Type}(n:Nat)(p:Nat→Bool){f:St→Option (Out×St)}(S:Nat→β→St)(r:Nat)(w:T)(e:Nat)(E:β→St)
  (h1:∀i,i<n→∀x,p i=false→∃y,f (S i x)=some (.normal,S (i+1) y)) (h2:∀i,i<n→∀x,p i=true→∃k,f (S i x)=some (.ret,{t:=[(r,.c w)],o:=[],n:=k}))
  (h3:∀x,∃y,f (S n x)=some (.exit e,E y)):∃g:β→β×Nat,∀x,fi f (n+1) (S 0 x)=some (lv r w e E (eE p n) (g x)):=
 mW n p S (lv r w e E) (fun q m=>by cases q<;>simp[lv]) h1 (fun i hi x c=>by
  obtain⟨k,hk⟩:=h2 i hi x c;exact⟨(x,k),hk⟩) (fun x=>by
  obtain⟨y,hy⟩:=h3 x;exact⟨(y,0),hy⟩)
theorem jz{α σ β γ:Type}(l:List α)(step:σ→α→σ)(Inv:Nat→σ→Prop){f:St→Option (Out×St)}(S:Nat→σ→β→St)(e:Nat)(E:σ→γ→St)
  (hI:∀i (h:i<l.length) s,Inv i s→Inv (i+1) (step s l[i]))
  (h1:∀i (h:i<l.length) s x,Inv i s→∃y,f (S i s x)=some (.normal,S (i+1) (step s l[i]) y))
  (h3:∀s x,Inv l.length s→∃y,f (S l.length s x)=some (.exit e,E s y)) (s:σ) (h0:Inv 0 s):
  ∃g:β→γ,∀x,fi f (l.length+1) (S 0 s x)=some (.exit e,E (l.foldl step s) (g x)):=by
 refine jP (f:=f) (fun p:Nat×σ=>S p.1 p.2) (fun p=>p.1≤l.length∧Inv p.1 p.2) (fun p=>l.length-p.1) (fun p=>(l.drop p.1).foldl step p.2) (fun q m=>(.exit e,E q m)) ?_ (l.length+1) (0,s) ⟨Nat.zero_le _,h0⟩ (by simp);rintro ⟨i,s⟩ x ⟨hi,hs⟩;simp only at hi hs;by_cases hlt:i<l.length
 ·left;obtain⟨y,hy⟩:=h1 i hlt s x hs;refine⟨(i+1,step s l[i]),y,hy,⟨hlt,hI i hlt s hs⟩,by simp only;omega, ?_⟩;simp only;rw[bC hlt,ff]
 ·have:i=l.length:=by omega
  subst this;right;obtain⟨y,hy⟩:=h3 s x hs;exact⟨y,by simp[hy],by simp⟩
theorem uE{α σ:Type}(l:List α)(step:σ→α→σ)(Inv:Nat→σ→Prop)(hI:∀i (h:i<l.length) s,Inv i s→Inv (i+1) (step s l[i])):∀s,Inv 0 s→Inv l.length (l.foldl step s):=by
 have key:∀d i s,i+d=l.length→Inv i s→Inv l.length ((l.drop i).foldl step s):=by
  intro d
  induction d with
  |zero=>intro i s hi h;have:i=l.length:=by omega
         subst this;simpa using h
  |succ d ih=>
   intro i s hi h;have hlt:i<l.length:=by omega
   rw[bC hlt,ff];exact ih (i+1) _ (by omega) (hI i hlt s h)
 intro s h;simpa using key l.length 0 s (by omega) h
def texts{α:Type}(t:α→List UInt8)(l:List α):List UInt8:=l.flatMap t
theorem BC{α:Type}(t:α→List UInt8)(l:List α)(s:List UInt8):l.foldl (fun s x=>s++t x) s=s++texts t l:=by
 induction l generalizing s with
 |nil=>simp[texts]
 |cons x l ih=>simp[ih,texts,cH]
theorem kW{α:Type}(t:α→List UInt8)(l:List α)(c:Nat)(h:∀x∈l,(t x).length≤c):(texts t l).length≤l.length*c:=by
 induction l with
 |nil=>simp[texts]
 |cons x l ih=>
  have h1:=ih fun y hy=>h y (bq _ hy)
  have h2:=h x (bh ..);simp only[texts,cH,aC,bT] at h1 ⊢;have:(l.length+1)*c=l.length*c+c:=Nat.succ_mul _ _;omega
theorem oW{α β γ:Type}(l:List α)(t:α→List UInt8)(c a:Nat)(hc:∀x∈l,(t x).length≤c){f:St→Option (Out×St)}(S:Nat→List UInt8→β→St)(e:Nat)(E:List UInt8→γ→St)
  (h1:∀i (h:i<l.length) s x,s.length≤a+i*c→∃y,f (S i s x)=some (.normal,S (i+1) (s++t l[i]) y))
  (h3:∀s x,∃y,f (S l.length s x)=some (.exit e,E s y)) (s:List UInt8) (h0:s.length≤a):
  ∃g:β→γ,∀x,fi f (l.length+1) (S 0 s x)=some (.exit e,E (s++texts t l) (g x)):=by
 have:=jz l (fun s x=>s++t x) (fun i s=>s.length≤a+i*c) S e E (fun i h s hs=>by
  have h2:=hc _ (ar h);have:(i+1)*c=i*c+c:=Nat.succ_mul _ _;simp only[aC];omega) h1 (fun s x _=>h3 s x) s (by simpa using h0)
 simpa only[BC] using this
end Mx
namespace Mx
open Go
variable {M:Nat→Option Body}
def kD(a n b:Int):Bool:=decide (a≤n)&&decide (n≤b)
theorem cj.kD(h:cj.k M)(n a b:Int):run M 101 [.c (I n),.c (I a),.c (I b)] []=some (.c (.bool (kD a n b)),[]):=cj.al h n a b
theorem bY.kD(h:bY.k M)(n a b:Int):run M 98 [.c (I n),.c (I a),.c (I b)] []=some (.c (.bool (kD a n b)),[]):=bY.al h n a b
def kz(t w:Int):Bool:=kD 0 t 100000&&kD 0 w 2
theorem gJ.al(h:gJ.k M)(t w:Int):run M 164 [.a [I t,I w]] []=some (.c (.bool (kz t w)),[]):=by
 have h1:=cj.kD h.2 t 0 100000;have h2:=cj.kD h.2 w 0 2;refine ao (b:=gJ.m) h.1 ⟨0, ?_⟩;cases c:kD 0 t 100000<;>simp (maxSteps:=9^9) (disch:=(first|omega|(simp;done)|(simp;omega))) [a8,gJ.m,gJ.b,aa,h1,h2,c,kz]
theorem gH.al(h:gH.k M)(t w:Int):run M 183 [.a [I t,I w]] []=some (.c (.bool (kz t w)),[]):=by
 have h1:=bY.kD h.2 t 0 100000;have h2:=bY.kD h.2 w 0 2;refine ao (b:=gH.m) h.1 ⟨0, ?_⟩;cases c:kD 0 t 100000<;>simp (maxSteps:=9^9) (disch:=(first|omega|(simp;done)|(simp;omega))) [a8,gH.m,gH.b,aa,h1,h2,c,kz]
def nQ(r:mB):Bool:=kz r.time r.eD&&kD 0 r.val 1000000000
theorem jd.al(h:jd.k M)(r:mB):run M 272 [.a (aF r)] []=some (.c (.bool (nQ r)),[]):=by
 have h1:=gJ.al h.2.2 r.time r.eD;have h2:=cj.kD h.2.1 r.val 0 1000000000;refine ao (b:=jd.m) h.1 ⟨0, ?_⟩;cases c:kz r.time r.eD<;>simp (maxSteps:=9^9) (disch:=(first|omega|(simp;done)|(simp;omega))) [a8,jd.m,jd.b,aa,ab,h1,h2,c,nQ]
theorem ja.al(h:ja.k M)(r:mB):run M 276 [.a (aF r)] []=some (.c (.bool (nQ r)),[]):=by
 have h1:=gH.al h.2.2 r.time r.eD;have h2:=bY.kD h.2.1 r.val 0 1000000000;refine ao (b:=ja.m) h.1 ⟨0, ?_⟩;cases c:kz r.time r.eD<;>simp (maxSteps:=9^9) (disch:=(first|omega|(simp;done)|(simp;omega))) [a8,ja.m,ja.b,aa,ab,h1,h2,c,nQ]
def qO(l:List mB)(i:Nat):Bool:=match l[i]? with
 |some r=> !nQ r||decide (1<r.val)
 |none=>false
def jZ(l:List mB):Bool:=(eE (qO l) l.length).isNone&&decide (l.length=3)
theorem mY{l:List mB}{i:Nat}(h:i<l.length):qO l i=(!nQ l[i]||decide (1<l[i].val)):=by simp[qO,h]
def Kz(l:List mB)(i:Nat)(x:Nat):St:={t:=[(0,.c (jE l)),(5,.c (jE l)),(6,.c (I l.length)),(7,.c (I i))],o:=[],n:=x}
def Np(l:List mB)(x:Nat):St:={t:=[(0,.c (jE l)),(5,.c (jE l)),(6,.c (I l.length)),(7,.c (I l.length)),(8,.c (.bool false))],o:=[],n:=x}
theorem dL.al(h:dL.k M)(l:List mB)(hl:l.length≤1048576):run M 235 [.c (jE l)] []=some (.c (.bool (jZ l)),[]):=by
 refine ao (b:=dL.m) h.1 ⟨l.length+1, ?_⟩;obtain⟨g,hr⟩:=iE (f:=cy (run M) (l.length+1) dL.l0) l.length (qO l) (Kz l) 2 (.bool false) 0 (Np l)
  (fun i hi x c=>by
   have e5:=cz (i:=i) (by omega);have hm:=jd.al h.2 l[i];rw[mY hi] at c;simp at c;simp only[aF,c.1] at hm;have c2:¬(1:Int)<l[i].val:=by omega
   simp (maxSteps:=9^9) (disch:=(first|omega|(simp;done)|(simp;omega))) [dL.l0,ab,setAt,Kz,hi,hm,aF,c2,e5])
  (fun i hi x c=>by
   have hm:=jd.al h.2 l[i];rw[mY hi] at c;cases c1:nQ l[i]
   ·simp only[aF,c1] at hm;simp (maxSteps:=9^9) (disch:=(first|omega|(simp;done)|(simp;omega))) [dL.l0,ab,setAt,Kz,hi,hm,aF]
   ·simp[c1] at c;simp only[aF,c1] at hm;simp (maxSteps:=9^9) (disch:=(first|omega|(simp;done)|(simp;omega))) [dL.l0,ab,setAt,Kz,hi,hm,aF,c])
  (fun x=>by simp (maxSteps:=9^9) (disch:=(first|omega|(simp;done)|(simp;omega))) [dL.l0,Kz,Np])
 cases q:eE (qO l) l.length with
 |none=>
  simp[Kz,Np,q,lv] at hr;simp (maxSteps:=9^9) (disch:=(first|omega|(simp;done)|(simp;omega))) [a8,dL.m,dL.b,aa,hr,jZ,q];omega
 |some k=>
  simp[Kz,q,lv] at hr;simp (maxSteps:=9^9) (disch:=(first|omega|(simp;done)|(simp;omega))) [a8,dL.m,dL.b,aa,hr,jZ,q]
def J0(l:List mB)(i:Nat)(x:Nat):St:={t:=[(0,.c (jE l)),(3,.c (I i))],o:=[],n:=x}
def M9(l:List mB)(x:Nat):St:={t:=[(0,.c (jE l)),(3,.c (I l.length)),(7,.c (.bool false))],o:=[],n:=x}
theorem dJ.al(h:dJ.k M)(l:List mB)(hl:l.length≤1048576):run M 242 [.c (jE l)] []=some (.c (.bool (jZ l)),[]):=by
 refine ao (b:=dJ.m) h.1 ⟨l.length+1, ?_⟩;obtain⟨g,hr⟩:=iE (f:=cy (run M) (l.length+1) dJ.l0) l.length (qO l) (J0 l) 2 (.bool false) 0 (M9 l)
  (fun i hi x c=>by
   have e5:=cz (i:=i) (by omega);have hm:=ja.al h.2 l[i];rw[mY hi] at c;simp at c;simp only[aF,c.1] at hm;have c2:¬(1:Int)<l[i].val:=by omega
   simp (maxSteps:=9^9) (disch:=(first|omega|(simp;done)|(simp;omega))) [dJ.l0,ab,J0,hi,hm,aF,c2,e5])
  (fun i hi x c=>by
   have hm:=ja.al h.2 l[i];rw[mY hi] at c;cases c1:nQ l[i]
   ·simp only[aF,c1] at hm;simp (maxSteps:=9^9) (disch:=(first|omega|(simp;done)|(simp;omega))) [dJ.l0,ab,J0,hi,hm,aF]
   ·simp[c1] at c;simp only[aF,c1] at hm;simp (maxSteps:=9^9) (disch:=(first|omega|(simp;done)|(simp;omega))) [dJ.l0,ab,J0,hi,hm,aF,c])
  (fun x=>by simp (maxSteps:=9^9) (disch:=(first|omega|(simp;done)|(simp;omega))) [dJ.l0,J0,M9])
 cases q:eE (qO l) l.length with
 |none=>
  simp[J0,M9,q,lv] at hr;simp (maxSteps:=9^9) (disch:=(first|omega|(simp;done)|(simp;omega))) [a8,dJ.m,dJ.b,aa,hr,jZ,q];omega
 |some k=>
  simp[J0,q,lv] at hr;simp (maxSteps:=9^9) (disch:=(first|omega|(simp;done)|(simp;omega))) [a8,dJ.m,dJ.b,aa,hr,jZ,q]
theorem gG.al(h:gG.k M)(n:Int):run M 147 [.c (I n)] []=some (.c (.bool (kD 1 n 9999)),[]):=by
 have h1:=cj.kD h.2 n 1 9999;refine ao (b:=gG.m) h.1 ⟨0, ?_⟩;simp (maxSteps:=9^9) (disch:=(first|omega|(simp;done)|(simp;omega))) [a8,gG.m,gG.b,aa,h1]
def iY(m:bp):Bool:=kD 1 m.gid 9999&&kD 1 m.uid 9999&&jZ m.flags&&decide (m.text.length≤60)
theorem fN.al(h:fN.k M)(m:bp)(hl:m.flags.length≤1048576):run M 166 [.a (ah m)] []=some (.c (.bool (iY m)),[]):=by
 have h1:=gG.al h.2.1 m.gid;have h2:=gG.al h.2.1 m.uid;have h3:=dL.al h.2.2 m.flags hl;refine ao (b:=fN.m) h.1 ⟨0, ?_⟩;cases c1:kD 1 m.gid 9999
 ·simp (maxSteps:=9^9) (disch:=(first|omega|(simp;done)|(simp;omega))) [a8,fN.m,fN.b,aa,h1,c1,iY]
 cases c2:kD 1 m.uid 9999
 ·simp (maxSteps:=9^9) (disch:=(first|omega|(simp;done)|(simp;omega))) [a8,fN.m,fN.b,aa,h1,h2,c1,c2,iY]
 cases c3:jZ m.flags
 ·simp (maxSteps:=9^9) (disch:=(first|omega|(simp;done)|(simp;omega))) [a8,fN.m,fN.b,aa,h1,h2,h3,c1,c2,c3,iY]
 simp (maxSteps:=9^9) (disch:=(first|omega|(simp;done)|(simp;omega))) [a8,fN.m,fN.b,aa,h1,h2,h3,c1,c2,c3,iY];omega
theorem dX.al(h:dX.k M)(m:bp)(hl:m.flags.length≤1048576):run M 187 [.a (ah m)] []=some (.c (.bool (iY m)),[]):=by
 have h1:=bY.kD h.2.1 m.gid 1 9999;have h2:=bY.kD h.2.1 m.uid 1 9999;have h3:=dJ.al h.2.2 m.flags hl;refine ao (b:=dX.m) h.1 ⟨0, ?_⟩;cases c1:kD 1 m.gid 9999
 ·simp (maxSteps:=9^9) (disch:=(first|omega|(simp;done)|(simp;omega))) [a8,dX.m,dX.b,aa,h1,c1,iY]
 cases c2:kD 1 m.uid 9999
 ·simp (maxSteps:=9^9) (disch:=(first|omega|(simp;done)|(simp;omega))) [a8,dX.m,dX.b,aa,h1,h2,c1,c2,iY]
 cases c3:jZ m.flags
 ·simp (maxSteps:=9^9) (disch:=(first|omega|(simp;done)|(simp;omega))) [a8,dX.m,dX.b,aa,h1,h2,h3,c1,c2,c3,iY]
 simp (maxSteps:=9^9) (disch:=(first|omega|(simp;done)|(simp;omega))) [a8,dX.m,dX.b,aa,h1,h2,h3,c1,c2,c3,iY];omega
def qN(l:List UInt8)(i:Nat):Bool:=match l[i]? with
 |some b=>(decide ((b.toNat:Int)<97)||decide (122<(b.toNat:Int)))&&(decide ((b.toNat:Int)<48)||decide (57<(b.toNat:Int)))
 |none=>false
theorem qM{l:List UInt8}{i:Nat}(h:i<l.length):
  qN l i=((decide ((l[i].toNat:Int)<97)||decide (122<(l[i].toNat:Int)))&&(decide ((l[i].toNat:Int)<48)||decide (57<(l[i].toNat:Int)))):=by simp[qN,h]
def nw(l:List UInt8):Bool:=(eE (qN l) l.length).isNone&&kD 1 l.length 12
def zN(l:List UInt8)(i:Nat)(x:Nat):St:={t:=[(0,.c (S l)),(3,.c (I i))],o:=[],n:=x}
def Kx(l:List UInt8)(x:Nat):St:={t:=[(0,.c (S l)),(3,.c (I l.length)),(7,.c (.bool false))],o:=[],n:=x}
theorem ei.al(h:ei.k M)(l:List UInt8)(hl:l.length≤4611686018427387904):run M 89 [.c (S l)] []=some (.c (.bool (nw l)),[]):=by
 have h1:=cj.kD h.2 l.length 1 12;refine ao (b:=ei.m) h.1 ⟨l.length+1, ?_⟩;obtain⟨g,hr⟩:=iE (f:=cy (run M) (l.length+1) ei.l0) l.length (qN l) (zN l) 2 (.bool false) 0 (Kx l)
  (fun i hi x c=>by
   have e5:=cz (i:=i) (by omega);rw[qM hi] at c;generalize hb:((l[i].toNat:Nat):Int)=b at c;by_cases c1:b<97
   ·by_cases c2:b<48
    ·simp[c1,c2] at c
    ·by_cases c3:57<b
     ·simp[c1,c2,c3] at c
     ·simp (maxSteps:=9^9) (disch:=(first|omega|(simp;done)|(simp;omega))) [ei.l0,jS,zN,hi,e5,hb,c1,c2,c3]
   ·by_cases c4:122<b
    ·have c3:57<b:=by omega
     simp[c1,c4,c3] at c
    ·simp (maxSteps:=9^9) (disch:=(first|omega|(simp;done)|(simp;omega))) [ei.l0,jS,zN,hi,e5,hb,c1,c4])
  (fun i hi x c=>by
   rw[qM hi] at c;generalize hb:((l[i].toNat:Nat):Int)=b at c;by_cases c1:b<97
   ·by_cases c2:b<48
    ·simp (maxSteps:=9^9) (disch:=(first|omega|(simp;done)|(simp;omega))) [ei.l0,jS,zN,hi,hb,c1,c2]
    ·by_cases c3:57<b
     ·simp (maxSteps:=9^9) (disch:=(first|omega|(simp;done)|(simp;omega))) [ei.l0,jS,zN,hi,hb,c1,c2,c3]
     ·simp[c1,c2,c3] at c
   ·by_cases c4:122<b
    ·have c2:¬b<48:=by omega
     have c3:57<b:=by omega
     simp (maxSteps:=9^9) (disch:=(first|omega|(simp;done)|(simp;omega))) [ei.l0,jS,zN,hi,hb,c1,c2,c3,c4]
    ·simp[c1,c4] at c)
  (fun x=>by simp (maxSteps:=9^9) (disch:=(first|omega|(simp;done)|(simp;omega))) [ei.l0,zN,Kx])
 cases q:eE (qN l) l.length with
 |none=>
  simp[zN,Kx,q,lv] at hr;simp (maxSteps:=9^9) (disch:=(first|omega|(simp;done)|(simp;omega))) [a8,ei.m,ei.b,aa,hr,nw,q,h1]
 |some k=>
  simp[zN,q,lv] at hr;simp (maxSteps:=9^9) (disch:=(first|omega|(simp;done)|(simp;omega))) [a8,ei.m,ei.b,aa,hr,nw,q]
def zi(l:List UInt8)(i:Nat)(x:Nat):St:={t:=[(0,.c (S l)),(3,.c (I i))],o:=[],n:=x}
def JY(l:List UInt8)(x:Nat):St:={t:=[(0,.c (S l)),(3,.c (I l.length)),(7,.c (.bool false))],o:=[],n:=x}
theorem dW.al(h:dW.k M)(l:List UInt8)(hl:l.length≤4611686018427387904):run M 90 [.c (S l)] []=some (.c (.bool (nw l)),[]):=by
 have h1:=bY.kD h.2 l.length 1 12;refine ao (b:=dW.m) h.1 ⟨l.length+1, ?_⟩;obtain⟨g,hr⟩:=iE (f:=cy (run M) (l.length+1) dW.l0) l.length (qN l) (zi l) 2 (.bool false) 0 (JY l)
  (fun i hi x c=>by
   have e5:=cz (i:=i) (by omega);rw[qM hi] at c;generalize hb:((l[i].toNat:Nat):Int)=b at c;by_cases c1:b<97
   ·by_cases c2:b<48
    ·simp[c1,c2] at c
    ·by_cases c3:57<b
     ·simp[c1,c2,c3] at c
     ·simp (maxSteps:=9^9) (disch:=(first|omega|(simp;done)|(simp;omega))) [dW.l0,jS,zi,hi,e5,hb,c1,c2,c3]
   ·by_cases c4:122<b
    ·have c3:57<b:=by omega
     simp[c1,c4,c3] at c
    ·simp (maxSteps:=9^9) (disch:=(first|omega|(simp;done)|(simp;omega))) [dW.l0,jS,zi,hi,e5,hb,c1,c4])
  (fun i hi x c=>by
   rw[qM hi] at c;generalize hb:((l[i].toNat:Nat):Int)=b at c;by_cases c1:b<97
   ·by_cases c2:b<48
    ·simp (maxSteps:=9^9) (disch:=(first|omega|(simp;done)|(simp;omega))) [dW.l0,jS,zi,hi,hb,c1,c2]
    ·by_cases c3:57<b
     ·simp (maxSteps:=9^9) (disch:=(first|omega|(simp;done)|(simp;omega))) [dW.l0,jS,zi,hi,hb,c1,c2,c3]
     ·simp[c1,c2,c3] at c
   ·by_cases c4:122<b
    ·have c2:¬b<48:=by omega
     have c3:57<b:=by omega
     simp (maxSteps:=9^9) (disch:=(first|omega|(simp;done)|(simp;omega))) [dW.l0,jS,zi,hi,hb,c1,c2,c3,c4]
    ·simp[c1,c4] at c)
  (fun x=>by simp (maxSteps:=9^9) (disch:=(first|omega|(simp;done)|(simp;omega))) [dW.l0,zi,JY])
 cases q:eE (qN l) l.length with
 |none=>
  simp[zi,JY,q,lv] at hr;simp (maxSteps:=9^9) (disch:=(first|omega|(simp;done)|(simp;omega))) [a8,dW.m,dW.b,aa,hr,nw,q,h1]
 |some k=>
  simp[zi,q,lv] at hr;simp (maxSteps:=9^9) (disch:=(first|omega|(simp;done)|(simp;omega))) [a8,dW.m,dW.b,aa,hr,nw,q]
def ta(l:List Int)(i:Nat):Bool:=match l[i]? with
 |some g=> !kD 1 g 9999||(decide (0<i)&&match l[i-1]? with|some f=>decide (g≤f)|none=>false)
 |none=>false
theorem oq{l:List Int}{i:Nat}(h:i<l.length):ta l i=(!kD 1 l[i] 9999||(decide (0<i)&&decide (l[i]≤l[i-1]))):=by
 simp[ta,h,(show i-1<l.length by omega)]
def l_(l:List Int)(most:Int):Bool:=(eE (ta l) l.length).isNone&&decide ((l.length:Int)≤most)
def JF(l:List Int)(most:Int)(i:Nat)(x:Nat):St:={t:=[(0,.c (ints l)),(1,.c (I most)),(7,.c (ints l)),(8,.c (I l.length)),(9,.c (I i))],o:=[],n:=x}
def ND(l:List Int)(most:Int)(x:Nat):St:={t:=[(0,.c (ints l)),(1,.c (I most)),(7,.c (ints l)),(8,.c (I l.length)),(9,.c (I l.length)),(10,.c (.bool false))],o:=[],n:=x}
theorem dq.al(h:dq.k M)(l:List Int)(most:Int)(hl:l.length≤4611686018427387904):run M 165 [.c (ints l),.c (I most)] []=some (.c (.bool (l_ l most)),[]):=by
 refine ao (b:=dq.m) h.1 ⟨l.length+1, ?_⟩;obtain⟨g,hr⟩:=iE (f:=cy (run M) (l.length+1) dq.l0) l.length (ta l) (JF l most) 4 (.bool false) 0 (ND l most)
  (fun i hi x c=>by
   have e5:=cz (i:=i) (by omega);have hm:=gG.al h.2 l[i];rw[oq hi] at c;simp at c;simp only[c.1] at hm;by_cases c1:0<i
   ·have c2:¬l[i]≤l[i-1]:=by have:=c.2 c1;omega
    have e6:IntKind.i64.wrap ((i:Int)-1)=((i-1:Nat):Int):=by rw[wrap_i64 (by omega) (by omega)];omega
    simp (maxSteps:=9^9) (disch:=(first|omega|(simp;done)|(simp;omega))) [dq.l0,JF,hi,hm,c1,c2,e5,e6]
   ·simp (maxSteps:=9^9) (disch:=(first|omega|(simp;done)|(simp;omega))) [dq.l0,JF,hi,hm,c1,e5])
  (fun i hi x c=>by
   have hm:=gG.al h.2 l[i];rw[oq hi] at c;cases c1:kD 1 l[i] 9999
   ·simp only[c1] at hm;simp (maxSteps:=9^9) (disch:=(first|omega|(simp;done)|(simp;omega))) [dq.l0,JF,hi,hm]
   ·simp[c1] at c;obtain⟨c2,c3⟩:=c;simp only[c1] at hm;have e6:IntKind.i64.wrap ((i:Int)-1)=((i-1:Nat):Int):=by rw[wrap_i64 (by omega) (by omega)];omega
    simp (maxSteps:=9^9) (disch:=(first|omega|(simp;done)|(simp;omega))) [dq.l0,JF,hi,hm,c2,c3,e6])
  (fun x=>by simp (maxSteps:=9^9) (disch:=(first|omega|(simp;done)|(simp;omega))) [dq.l0,JF,ND])
 cases q:eE (ta l) l.length with
 |none=>
  simp[JF,ND,q,lv] at hr;simp (maxSteps:=9^9) (disch:=(first|omega|(simp;done)|(simp;omega))) [a8,dq.m,dq.b,aa,hr,l_,q]
 |some k=>
  simp[JF,q,lv] at hr;simp (maxSteps:=9^9) (disch:=(first|omega|(simp;done)|(simp;omega))) [a8,dq.m,dq.b,aa,hr,l_,q]
def Ju(l:List Int)(most:Int)(i:Nat)(x:Nat):St:={t:=[(0,.c (ints l)),(1,.c (I most)),(5,.c (I i))],o:=[],n:=x}
def M1(l:List Int)(most:Int)(x:Nat):St:={t:=[(0,.c (ints l)),(1,.c (I most)),(5,.c (I l.length)),(9,.c (.bool false))],o:=[],n:=x}
theorem cD.al(h:cD.k M)(l:List Int)(most:Int)(hl:l.length≤4611686018427387904):run M 186 [.c (ints l),.c (I most)] []=some (.c (.bool (l_ l most)),[]):=by
 refine ao (b:=cD.m) h.1 ⟨l.length+1, ?_⟩;obtain⟨g,hr⟩:=iE (f:=cy (run M) (l.length+1) cD.l0) l.length (ta l) (Ju l most) 4 (.bool false) 0 (M1 l most)
  (fun i hi x c=>by
   have e5:=cz (i:=i) (by omega);have hm:=bY.kD h.2 l[i] 1 9999;rw[oq hi] at c;simp at c;simp only[c.1] at hm;by_cases c1:0<i
   ·have c2:¬l[i]≤l[i-1]:=by have:=c.2 c1;omega
    have e6:IntKind.i64.wrap ((i:Int)-1)=((i-1:Nat):Int):=by rw[wrap_i64 (by omega) (by omega)];omega
    simp (maxSteps:=9^9) (disch:=(first|omega|(simp;done)|(simp;omega))) [cD.l0,Ju,hi,hm,c1,c2,e5,e6]
   ·simp (maxSteps:=9^9) (disch:=(first|omega|(simp;done)|(simp;omega))) [cD.l0,Ju,hi,hm,c1,e5])
  (fun i hi x c=>by
   have hm:=bY.kD h.2 l[i] 1 9999;rw[oq hi] at c;cases c1:kD 1 l[i] 9999
   ·simp only[c1] at hm;simp (maxSteps:=9^9) (disch:=(first|omega|(simp;done)|(simp;omega))) [cD.l0,Ju,hi,hm]
   ·simp[c1] at c;obtain⟨c2,c3⟩:=c;simp only[c1] at hm;have e6:IntKind.i64.wrap ((i:Int)-1)=((i-1:Nat):Int):=by rw[wrap_i64 (by omega) (by omega)];omega
    simp (maxSteps:=9^9) (disch:=(first|omega|(simp;done)|(simp;omega))) [cD.l0,Ju,hi,hm,c2,c3,e6])
  (fun x=>by simp (maxSteps:=9^9) (disch:=(first|omega|(simp;done)|(simp;omega))) [cD.l0,Ju,M1])
 cases q:eE (ta l) l.length with
 |none=>
  simp[Ju,M1,q,lv] at hr;simp (maxSteps:=9^9) (disch:=(first|omega|(simp;done)|(simp;omega))) [a8,cD.m,cD.b,aa,hr,l_,q]
 |some k=>
  simp[Ju,q,lv] at hr;simp (maxSteps:=9^9) (disch:=(first|omega|(simp;done)|(simp;omega))) [a8,cD.m,cD.b,aa,hr,l_,q]
def zL(l:List Int)(g:Int)(i:Nat):Bool:=match l[i]? with
 |some x=>decide (x=g)
 |none=>false
theorem se{l:List Int}{g:Int}{i:Nat}(h:i<l.length):zL l g i=decide (l[i]=g):=by simp[zL,h]
theorem AQ(l:List Int)(g:Int):(eE (zL l g) l.length).isSome=decide (g∈l):=by
 rw[Bool.eq_iff_iff];simp only[decide_eq_true_eq];cases q:eE (zL l g) l.length with
 |none=>
  have:=mg q;refine⟨fun h=>by simp at h,fun h=> ?_⟩;obtain⟨i,hi,e⟩:=bF h;have h1:=this i hi;rw[se hi] at h1;simp[e] at h1
 |some k=>
  obtain⟨h1,h2,_⟩:=mf q;rw[se h1] at h2;simp at h2;refine⟨fun _=> ?_,fun _=>rfl⟩;rw[←h2];exact ar h1
def KY(l:List Int)(g:Int)(i:Nat)(x:Nat):St:={t:=[(0,.c (ints l)),(1,.c (I g)),(5,.c (I i))],o:=[],n:=x}
def M6(l:List Int)(g:Int)(x:Nat):St:={t:=[(0,.c (ints l)),(1,.c (I g)),(5,.c (I l.length)),(9,.c (.bool false))],o:=[],n:=x}
theorem bl.al(h:bl.k M)(l:List Int)(g:Int)(hl:l.length≤4611686018427387904):run M 132 [.c (ints l),.c (I g)] []=some (.c (.bool (decide (g∈l))),[]):=by
 refine ao (b:=bl.m) h ⟨l.length+1, ?_⟩;obtain⟨g',hr⟩:=iE (f:=cy (run M) (l.length+1) bl.l0) l.length (zL l g) (KY l g) 4 (.bool true) 0 (M6 l g)
  (fun i hi x c=>by
   have e5:=cz (i:=i) (by omega);rw[se hi] at c;simp at c;simp (maxSteps:=9^9) (disch:=(first|omega|(simp;done)|(simp;omega))) [bl.l0,KY,hi,e5,c])
  (fun i hi x c=>by
   rw[se hi] at c;simp at c;simp (maxSteps:=9^9) (disch:=(first|omega|(simp;done)|(simp;omega))) [bl.l0,KY,hi,c])
  (fun x=>by simp (maxSteps:=9^9) (disch:=(first|omega|(simp;done)|(simp;omega))) [bl.l0,KY,M6])
 have hm:=AQ l g;rw[←hm];cases q:eE (zL l g) l.length with
 |none=>
  simp[KY,M6,q,lv] at hr;simp (maxSteps:=9^9) (disch:=(first|omega|(simp;done)|(simp;omega))) [a8,bl.m,bl.b,aa,hr]
 |some k=>
  simp[KY,q,lv] at hr;simp (maxSteps:=9^9) (disch:=(first|omega|(simp;done)|(simp;omega))) [a8,bl.m,bl.b,aa,hr]
def KW(l:List Int)(g:Int)(i:Nat)(x:Nat):St:={t:=[(0,.c (ints l)),(1,.c (I g)),(7,.c (I l.length)),(8,.c (I i))],o:=[],n:=x}
theorem bQ.al(h:bQ.k M)(l:List Int)(g:Int)(hl:l.length≤4611686018427387904):run M 234 [.c (ints l),.c (I g)] []=some (.c (I (dN (eE (zL l g) l.length))),[]):=by
 refine ao (b:=bQ.m) h ⟨l.length+1, ?_⟩;obtain⟨g',hr⟩:=mW (f:=cy (run M) (l.length+1) bQ.l0) l.length (zL l g) (KW l g) jU po
  (fun i hi x c=>by
   have e5:=cz (i:=i) (by omega);rw[se hi] at c;simp at c;have c':¬g=l[i]:=fun q=>c q.symm
   simp (maxSteps:=9^9) (disch:=(first|omega|(simp;done)|(simp;omega))) [bQ.l0,KW,hi,e5,c'])
  (fun i hi x c=>by
   rw[se hi] at c;simp at c;simp (maxSteps:=9^9) (disch:=(first|omega|(simp;done)|(simp;omega))) [bQ.l0,KW,hi,c,jU];exact⟨⟨[],[],_⟩,rfl⟩)
  (fun x=>by simp (maxSteps:=9^9) (disch:=(first|omega|(simp;done)|(simp;omega))) [bQ.l0,KW,jU])
 cases q:eE (zL l g) l.length with
 |none=>
  simp[KW,q,jU] at hr;simp (maxSteps:=9^9) (disch:=(first|omega|(simp;done)|(simp;omega))) [a8,bQ.m,bQ.b,aa,hr,dN]
 |some k=>
  simp[KW,q,jU] at hr;simp (maxSteps:=9^9) (disch:=(first|omega|(simp;done)|(simp;omega))) [a8,bQ.m,bQ.b,aa,hr,dN]
theorem FW(q:Option Nat):decide (0≤dN q)=q.isSome:=by cases q<;>simp[dN]
theorem aL.al(h:aL.k M)(l:List Int)(g:Int)(hl:l.length≤4611686018427387904):run M 156 [.c (ints l),.c (I g)] []=some (.c (.bool (decide (g∈l))),[]):=by
 have h1:=bQ.al h.2 l g hl;refine ao (b:=aL.m) h.1 ⟨0, ?_⟩;rw[←AQ l g,←FW];simp (maxSteps:=9^9) (disch:=(first|omega|(simp;done)|(simp;omega))) [a8,aL.m,aL.b,aa,h1]
def L6(l:List Int)(x:Int)(i:Nat)(s:List Int)(m:Nat×Nat):St:={t:=[(0,.c (ints l)),(1,.c (I x)),(5,.c (.row 8 m.1 0 s.length)),(6,.c (I i))],o:=[(8,⟨m.1,1,true,false,ax s⟩)],n:=m.2}
def Ns(l:List Int)(x:Int)(s:List Int)(m:Nat×Nat):St:={t:=[(0,.c (ints l)),(1,.c (I x)),(5,.c (.row 8 m.1 0 s.length)),(6,.c (I l.length)),(12,.c (.bool false))],o:=[(8,⟨m.1,1,true,false,ax s⟩)],n:=m.2}
def L5(l:List Int)(x:Int)(i:Nat)(s:List Int)(m:Nat×Nat):St:={t:=[(0,.c (ints l)),(1,.c (I x)),(5,.c (.row 8 m.1 0 s.length)),(7,.c (I i))],o:=[(8,⟨m.1,1,true,false,ax s⟩)],n:=m.2}
def Nr(l:List Int)(x:Int)(s:List Int)(m:Nat×Nat):St:={t:=[(0,.c (ints l)),(1,.c (I x)),(5,.c (.row 8 m.1 0 s.length)),(7,.c (I l.length)),(35,.c (.bool false))],o:=[(8,⟨m.1,1,true,false,ax s⟩)],n:=m.2}
theorem vu(p:Int→Bool):∀(l s:List Int),l.foldl (fun s a=>if p a=true then s++[a] else s) s=s++l.filter p
 |[],s=>by simp
 |a::l,s=>by
  rw[ff,vu p l,iP];by_cases h:p a=true<;>simp[h]
theorem nK(s:List Int)(a:Int):ax (s++[a])=ax s++[[I a]]:=by simp[ax]
theorem aI(s:List Int):(ax s).length=s.length:=by simp[ax]
theorem b7.al(h:b7.k M)(l:List Int)(x:Int)(hl:l.length≤16777216):run M 133 [.c (ints l),.c (I x)] []=some (.c (.sl true 1 (ax (kY l x))),[]):=by
 refine ao (b:=b7.m) h ⟨l.length+1, ?_⟩;obtain⟨g,hr⟩:=jz (f:=cy (run M) (l.length+1) b7.l0) l (fun s a=>if decide (a<x)=true then s++[a] else s) (fun i s=>s.length≤i) (L6 l x) 0 (Ns l x)
  (fun i h s hs=>by split<;>(try simp)<;>omega)
  (fun i hi s m hs=>by
   obtain⟨v,m⟩:=m;have e5:=cz (i:=i) (by omega);have e6:s.length+1≤4294967296:=by omega
   have e9:=aI s;simp only[aH];by_cases c:l[i]<x
   ·simp only[c,decide_true,if_true,L6,nK];generalize ax s=rr at*;simp (maxSteps:=9^9) [b7.l0,hi,c,e5,e6,e9,ab]
   ·simp only[c,decide_false,ay,if_false];simp (maxSteps:=9^9) [b7.l0,L6,hi,c,e5])
  (fun s m hs=>by
   obtain⟨v,m⟩:=m;simp only[aH];simp (maxSteps:=9^9) [b7.l0,L6,Ns]) [] (by simp)
 obtain⟨g',hr'⟩:=jz (f:=cy (run M) (l.length+1) b7.l1) l (fun s a=>if decide (x<a)=true then s++[a] else s) (fun i s=>s.length≤l.length+1+i) (L5 l x) 2 (Nr l x)
  (fun i h s hs=>by split<;>(try simp)<;>omega)
  (fun i hi s m hs=>by
   obtain⟨v,m⟩:=m;have e5:=cz (i:=i) (by omega);have e6:s.length+1≤4294967296:=by omega
   have e9:=aI s;simp only[aH];by_cases c:x<l[i]
   ·simp only[c,decide_true,if_true,L5,nK];generalize ax s=rr at*;simp (maxSteps:=9^9) [b7.l1,hi,c,e5,e6,e9,ab]
   ·simp only[c,decide_false,ay,if_false];simp (maxSteps:=9^9) [b7.l1,L5,hi,c,e5])
  (fun s m hs=>by
   obtain⟨v,m⟩:=m;simp only[aH];simp (maxSteps:=9^9) [b7.l1,L5,Nr]) (l.filter (fun y=>decide (y<x))++[x]) (by have:=bV (fun y=>decide (y<x)) l;simp;omega)
 rw[vu] at hr hr';have hfl:=bV (fun y=>decide (y<x)) l;have e6:(l.filter (fun y=>decide (y<x))).length+1≤4294967296:=by omega
 have e9:=aI (l.filter (fun y=>decide (y<x)));have e10:=aI (l.filter (fun y=>decide (y<x))++[x]++l.filter (fun y=>decide (x<y)));have e11:(l.filter (fun y=>decide (y<x))++[x]++l.filter (fun y=>decide (x<y))).length=(l.filter (fun y=>decide (y<x))).length+((l.filter (fun y=>decide (x<y))).length+1):=by simp only[aC,bU];omega
 rw[e11] at e10;have e12:=nK (l.filter (fun y=>decide (y<x))) x;unfold kY;simp only[List.nil_append] at hr;simp only[L6,Ns,eJ] at hr;simp only[L5,Nr,e12,e11,aC,bU] at hr';generalize ax (l.filter (fun y=>decide (y<x))++[x]++l.filter (fun y=>decide (x<y)))=r2 at*;generalize ax (l.filter (fun y=>decide (y<x)))=r1 at*;simp[ax] at hr;simp at hr';simp (maxSteps:=9^9) [a8,b7.m,b7.b,aa,hr,hr',e6,e9,e10,ab]
structure GX where
 w:Nat
 v8:Nat
 v1:Nat
 v2:Nat
 r8:List (List T)
 r1:List (List T)
 n:Nat
def Hb(s:List Int)(x:GX):List (Nat×Ob):=match x.w with
 |0=>[(8,⟨x.v8,1,true,false,ax s⟩)]
 |_=>[(8,⟨x.v8,1,true,false,x.r8⟩),(12700,⟨x.v1,1,true,false,ax s⟩)]
def Ha(s:List Int)(x:GX):T:=match x.w with
 |0=> .row 8 x.v8 0 s.length
 |_=> .row 12700 x.v1 0 s.length
def gO(s:List Int)(x:GX):List (Nat×Ob):=match x.w with
 |0=>[(8,⟨x.v8,1,true,false,ax s⟩)]
 |1=>[(8,⟨x.v8,1,true,false,x.r8⟩),(12700,⟨x.v1,1,true,false,ax s⟩)]
 |2=>[(8,⟨x.v8,1,true,false,x.r8⟩),(14600,⟨x.v2,1,true,false,ax s⟩)]
 |_=>[(8,⟨x.v8,1,true,false,x.r8⟩),(12700,⟨x.v1,1,true,false,x.r1⟩),(14600,⟨x.v2,1,true,false,ax s⟩)]
def gR(s:List Int)(x:GX):T:=match x.w with
 |0=> .row 8 x.v8 0 s.length
 |1=> .row 12700 x.v1 0 s.length
 |_=> .row 14600 x.v2 0 s.length
theorem GX.of{p:GX→Prop}(w r8 r1)(h:∃v8 v1 v2 n,p ⟨w,v8,v1,v2,r8,r1,n⟩):∃x,p x:=by
 obtain⟨v8,v1,v2,n,h⟩:=h;exact⟨_,h⟩
def F2(a b:List Int)(i:Nat)(s:List Int)(x:GX):St:={t:=[(0,.c (ints a)),(1,.c (ints b)),(5,.c (Ha s x)),(6,.c (I i))],o:=Hb s x,n:=x.n}
def L7(a b:List Int)(s:List Int)(x:GX):St:={t:=[(0,.c (ints a)),(1,.c (ints b)),(5,.c (Ha s x)),(6,.c (I a.length)),(12,.c (.bool false))],o:=Hb s x,n:=x.n}
def wc(b:List Int)(i:Nat)(s:List Int)(x:GX):St:={t:=[(1,.c (ints b)),(5,.c (gR s x)),(7,.c (I i))],o:=gO s x,n:=x.n}
def Dh(b:List Int)(s:List Int)(x:GX):St:={t:=[(1,.c (ints b)),(5,.c (gR s x)),(7,.c (I b.length)),(31,.c (.bool false))],o:=gO s x,n:=x.n}
theorem kT(l:List Int):(ax l).all (fun r=>r.all T.scalar)=true:=by simp[ax,T.scalar]
theorem aY.Lu(k1:bl.k M)(k2:b7.k M)(a b:List Int)(K i:Nat)(hi:i<a.length)(ha:a.length≤1048576)(s:List Int)(hs:s.length≤i)(x:GX):
  ∃y,cy (run M) K aY.l0 (F2 a b i s x)=some (.normal,F2 a b (i+1) (j8 s a[i]) y):=by
 have h1:=bl.al k1 s a[i] (by omega);have h2:=b7.al k2 s a[i] (by omega);have e5:=cz (i:=i) (by omega);have e9:=aI s;have e10:=aI (kY s a[i]);have hfl:=kT (kY s a[i]);simp only[ints] at h1 h2;obtain⟨w,v8,v1,v2,r8,r1,n⟩:=x;unfold j8;by_cases c:a[i]∈s
 ·rw[if_pos c];rw[decide_eq_true c] at h1;refine GX.of w r8 r1 ?_
  match w with
  |0=>simp only[F2,Hb,Ha];generalize ax s=rr at*;simp (maxSteps:=9^9) [aY.l0,hi,h1,e5,e9,ab]
  |w+1=>simp only[F2,Hb,Ha];generalize ax s=rr at*;simp (maxSteps:=9^9) [aY.l0,hi,h1,e5,e9,ab]
 ·rw[if_neg c];rw[decide_eq_false c] at h1
  match w with
  |0=>
   refine GX.of 1 (ax s) r1 ?_;simp only[F2,Hb,Ha];generalize ax (kY s a[i])=r2 at*;generalize ax s=rr at*;simp (maxSteps:=9^9) [aY.l0,hi,h1,h2,e5,e9,e10,hfl,ab]
  |w+1=>
   refine GX.of 1 r8 r1 ?_;simp only[F2,Hb,Ha];generalize ax (kY s a[i])=r2 at*;generalize ax s=rr at*;simp (maxSteps:=9^9) [aY.l0,hi,h1,h2,e5,e9,e10,hfl,ab]
theorem aY.Lt(k1:bl.k M)(k2:b7.k M)(b:List Int)(K i:Nat)(hi:i<b.length)(hb:b.length≤1048576)(s:List Int)(hs:s.length≤1048576+i)(x:GX):
  ∃y,cy (run M) K aY.l1 (wc b i s x)=some (.normal,wc b (i+1) (j8 s b[i]) y):=by
 have h1:=bl.al k1 s b[i] (by omega);have h2:=b7.al k2 s b[i] (by omega);have e5:=cz (i:=i) (by omega);have e9:=aI s;have e10:=aI (kY s b[i]);have hfl:=kT (kY s b[i]);simp only[ints] at h1 h2;obtain⟨w,v8,v1,v2,r8,r1,n⟩:=x;unfold j8;by_cases c:b[i]∈s
 ·rw[if_pos c];rw[decide_eq_true c] at h1;refine GX.of w r8 r1 ?_
  match w with
  |0=>simp only[wc,gO,gR];generalize ax s=rr at*;simp (maxSteps:=9^9) [aY.l1,hi,h1,e5,e9,ab]
  |1=>simp only[wc,gO,gR];generalize ax s=rr at*;simp (maxSteps:=9^9) [aY.l1,hi,h1,e5,e9,ab]
  |2=>simp only[wc,gO,gR];generalize ax s=rr at*;simp (maxSteps:=9^9) [aY.l1,hi,h1,e5,e9,ab]
  |w+3=>simp only[wc,gO,gR];generalize ax s=rr at*;simp (maxSteps:=9^9) [aY.l1,hi,h1,e5,e9,ab]
 ·rw[if_neg c];rw[decide_eq_false c] at h1
  match w with
  |0=>
   refine GX.of 2 (ax s) r1 ?_;simp only[wc,gO,gR];generalize ax (kY s b[i])=r2 at*;generalize ax s=rr at*;simp (maxSteps:=9^9) [aY.l1,hi,h1,h2,e5,e9,e10,hfl,ab]
  |1=>
   refine GX.of 3 r8 (ax s) ?_;simp only[wc,gO,gR];generalize ax (kY s b[i])=r2 at*;generalize ax s=rr at*;simp (maxSteps:=9^9) [aY.l1,hi,h1,h2,e5,e9,e10,hfl,ab]
  |2=>
   refine GX.of 2 r8 r1 ?_;simp only[wc,gO,gR];generalize ax (kY s b[i])=r2 at*;generalize ax s=rr at*;simp (maxSteps:=9^9) [aY.l1,hi,h1,h2,e5,e9,e10,hfl,ab]
  |w+3=>
   refine GX.of 3 r8 r1 ?_;simp only[wc,gO,gR];generalize ax (kY s b[i])=r2 at*;generalize ax s=rr at*;simp (maxSteps:=9^9) [aY.l1,hi,h1,h2,e5,e9,e10,hfl,ab]
theorem aY.al(h:aY.k M)(a b:List Int)(ha:a.length≤1048576)(hb:b.length≤1048576):run M 43 [.c (ints a),.c (ints b)] []=some (.c (.sl true 1 (ax (aV a b))),[]):=by
 obtain⟨h0,k1,k2⟩:=h;refine ao (b:=aY.m) h0 ⟨a.length+b.length+1, ?_⟩;obtain⟨g,hr⟩:=jz (f:=cy (run M) (a.length+b.length+1) aY.l0) a j8 (fun i s=>s.length≤i) (F2 a b) 0 (L7 a b)
  (fun i h s hs=>by have:=xp s a[i];omega)
  (fun i hi s x hs=>aY.Lu k1 k2 a b _ i hi ha s hs x)
  (fun s x hs=>by
   obtain⟨w,v8,v1,v2,r8,r1,n⟩:=x;refine GX.of w r8 r1 ?_
   match w with
   |0=>simp only[F2,L7,Hb,Ha];simp (maxSteps:=9^9) [aY.l0]
   |w+1=>simp only[F2,L7,Hb,Ha];simp (maxSteps:=9^9) [aY.l0]) [] (by simp)
 have hla:=sf a [];obtain⟨g',hr'⟩:=jz (f:=cy (run M) (a.length+b.length+1) aY.l1) b j8 (fun i s=>s.length≤1048576+i) (wc b) 2 (Dh b)
  (fun i h s hs=>by have:=xp s b[i];omega)
  (fun i hi s x hs=>aY.Lt k1 k2 b _ i hi hb s hs x)
  (fun s x hs=>by
   obtain⟨w,v8,v1,v2,r8,r1,n⟩:=x;refine GX.of w r8 r1 ?_
   match w with
   |0=>simp only[wc,Dh,gO,gR];simp (maxSteps:=9^9) [aY.l1]
   |1=>simp only[wc,Dh,gO,gR];simp (maxSteps:=9^9) [aY.l1]
   |2=>simp only[wc,Dh,gO,gR];simp (maxSteps:=9^9) [aY.l1]
   |w+3=>simp only[wc,Dh,gO,gR];simp (maxSteps:=9^9) [aY.l1]) (a.foldl j8 []) (by simp at hla ⊢;omega)
 have hr2:=fun x=>gP (hr x) (show a.length+1≤a.length+b.length+1 by omega)
 have hr3:=fun x=>gP (hr' x) (show b.length+1≤a.length+b.length+1 by omega)
 have hj:b.foldl j8 (a.foldl j8 [])=aV a b:=by rw[aV,List.foldl_append]
 rw[hj] at hr3;have e9:=aI (aV a b);generalize aV a b=j at*;generalize a.foldl j8 []=s at*;have hr4:∀y:GX,∃z:GX,fi (cy (run M) (a.length+b.length+1) aY.l1) (a.length+b.length+1) (wc b 0 s y)=some (.exit 2,Dh b j z):=fun y=>⟨_,hr3 y⟩
 have hq:=hr2 ⟨0,2000016,0,0,[],[],2000064⟩;generalize g ⟨0,2000016,0,0,[],[],2000064⟩=y at hq;clear hr hr2 hr' hr3;obtain⟨w,v8,v1,v2,r8,r1,n⟩:=y
 match w with
 |0=>
  obtain⟨⟨w',u8,u1,u2,q8,q1,m⟩,hz⟩:=hr4 ⟨0,v8,v1,v2,r8,r1,n+16⟩;simp[F2,L7,Hb,Ha,ax] at hq
  match w' with
  |0=>simp[wc,Dh,gO,gR,ax] at hz;simp only[ax] at e9 ⊢;simp (maxSteps:=9^9) [a8,aY.m,aY.b,aa,hq,hz,e9,ab]
  |1=>simp[wc,Dh,gO,gR,ax] at hz;simp only[ax] at e9 ⊢;simp (maxSteps:=9^9) [a8,aY.m,aY.b,aa,hq,hz,e9,ab]
  |2=>simp[wc,Dh,gO,gR,ax] at hz;simp only[ax] at e9 ⊢;simp (maxSteps:=9^9) [a8,aY.m,aY.b,aa,hq,hz,e9,ab]
  |w'+3=>simp[wc,Dh,gO,gR,ax] at hz;simp only[ax] at e9 ⊢;simp (maxSteps:=9^9) [a8,aY.m,aY.b,aa,hq,hz,e9,ab]
 |w+1=>
  obtain⟨⟨w',u8,u1,u2,q8,q1,m⟩,hz⟩:=hr4 ⟨1,v8,v1,v2,r8,r1,n+16⟩;simp[F2,L7,Hb,Ha,ax] at hq
  match w' with
  |0=>simp[wc,Dh,gO,gR,ax] at hz;simp only[ax] at e9 ⊢;simp (maxSteps:=9^9) [a8,aY.m,aY.b,aa,hq,hz,e9,ab]
  |1=>simp[wc,Dh,gO,gR,ax] at hz;simp only[ax] at e9 ⊢;simp (maxSteps:=9^9) [a8,aY.m,aY.b,aa,hq,hz,e9,ab]
  |2=>simp[wc,Dh,gO,gR,ax] at hz;simp only[ax] at e9 ⊢;simp (maxSteps:=9^9) [a8,aY.m,aY.b,aa,hq,hz,e9,ab]
  |w'+3=>simp[wc,Dh,gO,gR,ax] at hz;simp only[ax] at e9 ⊢;simp (maxSteps:=9^9) [a8,aY.m,aY.b,aa,hq,hz,e9,ab]
theorem Av(h:M 135=some (.ext uV))(zs:List Int)(hz:zs.length≤4294967296):run M 135 [.c (.row 0 0 0 zs.length)] [(0,⟨0,1,true,false,ax zs⟩)]=some (.lL [],[(0,⟨0,1,true,false,ax (lT zs)⟩)]):=by
 refine zn h ?_;simp[uV,pS,sE,hz]
theorem uX(h:M 136=some (.ext oD))(zs:List Int)(hz:zs.length≤4294967296):
  run M 136 [.c (.row 0 0 0 zs.length)] [(0,⟨0,1,true,false,ax zs⟩)]=some (.c (.row 0 0 0 (Lib.compact zs).length),[(0,⟨0,1,true,false,ax (Lib.compact zs++List.replicate (zs.length-(Lib.compact zs).length) 0)⟩)]):=by
 refine zn h ?_;simp[oD,pS,sE,hz]
theorem fI.al(h:fI.k M)(a b:List Int)(ha:a.length≤1048576)(hb:b.length≤1048576):run M 44 [.c (ints a),.c (ints b)] []=some (.c (.sl true 1 (ax (aV a b))),[]):=by
 obtain⟨h0,k1,k2,k3⟩:=h;have h1:=fj.al k1 a ha;have hab:(a++b).length≤4294967296:=by simp;omega
 have h2:=Av k2 (a++b) hab;have hsl:(lT (a++b)).length=(a++b).length:=by simp[lT]
 have h3:=uX k3 (lT (a++b)) (by rw[hsl];exact hab);rw[sM] at h3;have hjl:(aV a b).length≤(a++b).length:=by
  have:=sf (a++b) [];simp only[aV];simpa using this
 refine ao (b:=fI.m) h0 ⟨0, ?_⟩;rw[hsl] at h3;have e1:ax (a++b)=ax a++ax b:=by simp[ax]
 have e2:ax (aV a b++List.replicate ((a++b).length-(aV a b).length) 0)=ax (aV a b)++ax (List.replicate ((a++b).length-(aV a b).length) 0):=by simp[ax]
 rw[e1] at h2;rw[e2] at h3;simp only[aC] at h2 h3 hab hjl;have l1:=aI a;have l2:=aI b;have l3:=aI (aV a b);have l4:(ax (List.replicate (a.length+b.length-(aV a b).length) 0)).length=a.length+b.length-(aV a b).length:=by simp[ax]
 have s1:=kT (lT (a++b));have s2:=kT (aV a b);have l5:=aI (lT (a++b));rw[hsl] at l5;simp only[aC] at l5;simp only[ints] at h1 ⊢;generalize ax (List.replicate (a.length+b.length-(aV a b).length) 0)=rz at*;generalize ax (lT (a++b))=rs at*;generalize aV a b=j at*;generalize ax j=rj at*;have e5:a.length≤4294967296:=by omega
 have e6:j.length≤rj.length+rz.length:=by omega
 generalize ax a=ra at*;generalize ax b=rb at*;simp (maxSteps:=9^9) [a8,fI.m,fI.b,aa,h1,h2,h3,hab,l1,l2,l3,l4,l5,ab]
theorem fV.al(h:fV.k M)(n:Int):run M 148 [.c (I n)] []=some (.c (.bool (kD 0 n 7)),[]):=by
 have h1:=cj.kD h.2 n 0 7;refine ao (b:=fV.m) h.1 ⟨0, ?_⟩;simp (maxSteps:=9^9) [a8,fV.m,fV.b,aa,h1]
def nY(b:bz)(i:Nat):Bool:=match b.ae[i]? with
 |some m=> !iY m||decide (b.next≤m.uid)||(decide (0<i)&&match b.ae[i-1]? with|some p=>decide (m.uid≤p.uid)|none=>false)|| !decide (dN (gh b.ae m.gid)=(i:Int))||decide (m.gid∈b.gone)
 |none=>false
theorem nF{b:bz}{i:Nat}(h:i<b.ae.length):nY b i=(!iY b.ae[i]||decide (b.next≤b.ae[i].uid)||(decide (0<i)&&decide (b.ae[i].uid≤b.ae[i-1].uid))||
  !decide (dN (gh b.ae b.ae[i].gid)=(i:Int))||decide (b.ae[i].gid∈b.gone)):=by
 simp[nY,h,(show i-1<b.ae.length by omega)]
def fQ(b:bz):Bool:=kD 1 b.gid 9999&&nw b.name&&kz b.time b.eD&&kD 1 b.next 10000&&decide (b.ae.length≤10)&&l_ b.gone 40&&(eE (nY b) b.ae.length).isNone
def Bt(b:bz)(i:Nat)(x:Nat×Nat):St:={t:=[(1,.c (.ptr 1 x.1 0 0)),(40,.c (ae b.ae)),(41,.c (I b.ae.length)),(42,.c (I i))],o:=[(1,⟨x.1,7,true,true,[af b]⟩)],n:=x.2}
def KA(b:bz)(x:Nat×Nat):St:={t:=[(1,.c (.ptr 1 x.1 0 0)),(40,.c (ae b.ae)),(41,.c (I b.ae.length)),(42,.c (I b.ae.length)),(43,.c (.bool false))],o:=[(1,⟨x.1,7,true,true,[af b]⟩)],n:=x.2}
theorem bI.j2(hat:cJ.k M)(hin:aL.k M)(hmo:fN.k M)(b:bz)(hml:b.ae.length≤1048576)(hgl:b.gone.length≤4611686018427387904)(hw:∀m∈b.ae,m.flags.length≤1048576)
  (i:Nat) (hi:i<b.ae.length) (x:Nat×Nat) (c:nY b i=false):∃y,cy (run M) (b.ae.length+1) bI.l0 (Bt b i x)=some (.normal,Bt b (i+1) y):=by
   obtain⟨v,x⟩:=x;simp only[aH];have hm:=fN.al hmo b.ae[i] (hw _ (ar hi));have ha:=cJ.al hat b b.ae[i].gid hml;have hg:=aL.al hin b.gone b.ae[i].gid hgl;simp only[ah,af] at hm ha hg;rw[nF hi] at c;simp at c;obtain⟨⟨⟨⟨c1,c2⟩,c3⟩,c4⟩,c5⟩:=c;have e5:=cz (i:=i) (by omega);rw[c1] at hm;rw[c4] at ha;rw[decide_eq_false c5] at hg;have c2':¬b.next≤b.ae[i].uid:=by omega
   by_cases c6:0<i
   ·have e6:IntKind.i64.wrap ((i:Int)-1)=((i-1:Nat):Int):=by rw[wrap_i64 (by omega) (by omega)];omega
    have c3':¬b.ae[i].uid≤b.ae[i-1].uid:=by have:=c3 c6;omega
    simp (maxSteps:=9^9) [bI.l0,setAt,Bt,ah,hi,hm,ha,hg,c2',c6,c3',e5,e6,(show i-1<b.ae.length by omega)]
   ·simp (maxSteps:=9^9) [bI.l0,setAt,Bt,ah,hi,hm,ha,hg,c2',c6,e5]
theorem bI.bad(hat:cJ.k M)(hin:aL.k M)(hmo:fN.k M)(b:bz)(hml:b.ae.length≤1048576)(hgl:b.gone.length≤4611686018427387904)(hw:∀m∈b.ae,m.flags.length≤1048576)
  (i:Nat) (hi:i<b.ae.length) (x:Nat×Nat) (c:nY b i=true):∃k,cy (run M) (b.ae.length+1) bI.l0 (Bt b i x)=some (.ret,{t:=[(2,.c (.bool false))],o:=[],n:=k}):=by
   obtain⟨v,x⟩:=x;have hm:=fN.al hmo b.ae[i] (hw _ (ar hi));have ha:=cJ.al hat b b.ae[i].gid hml;have hg:=aL.al hin b.gone b.ae[i].gid hgl;simp only[ah,af] at hm ha hg;rw[nF hi] at c;cases c1:iY b.ae[i]
   ·rw[c1] at hm;simp (maxSteps:=9^9) [bI.l0,setAt,Bt,ah,hi,hm]
   rw[c1] at hm;by_cases c2:b.next≤b.ae[i].uid
   ·simp (maxSteps:=9^9) [bI.l0,setAt,Bt,ah,hi,hm,c2]
   have c2':¬b.next≤b.ae[i].uid:=c2;by_cases c6:0<i
   ·have e6:IntKind.i64.wrap ((i:Int)-1)=((i-1:Nat):Int):=by rw[wrap_i64 (by omega) (by omega)];omega
    by_cases c3:b.ae[i].uid≤b.ae[i-1].uid
    ·simp (maxSteps:=9^9) [bI.l0,setAt,Bt,ah,hi,hm,c2,c6,c3,e6,(show i-1<b.ae.length by omega)]
    by_cases c4:dN (gh b.ae b.ae[i].gid)=(i:Int);rotate_left
    ·simp (maxSteps:=9^9) [bI.l0,setAt,Bt,ah,hi,hm,c2,c6,c3,e6,(show i-1<b.ae.length by omega),ha,c4]
    rw[c4] at ha;by_cases c5:b.ae[i].gid∈b.gone;rotate_left
    ·simp[c1,c2,c3,c4,c5] at c
    rw[decide_eq_true c5] at hg;simp (maxSteps:=9^9) [bI.l0,setAt,Bt,ah,hi,hm,c2,c6,c3,e6,(show i-1<b.ae.length by omega),ha,hg]
   ·have c3:=c6;by_cases c4:dN (gh b.ae b.ae[i].gid)=(i:Int);rotate_left
    ·simp (maxSteps:=9^9) [bI.l0,setAt,Bt,ah,hi,hm,c2,c6,ha,c4]
    rw[c4] at ha;by_cases c5:b.ae[i].gid∈b.gone;rotate_left
    ·simp[c1,c2,c3,c4,c5] at c
    rw[decide_eq_true c5] at hg;simp (maxSteps:=9^9) [bI.l0,setAt,Bt,ah,hi,hm,c2,c6,ha,hg]
theorem bI.al(h:bI.k M)(b:bz)(hml:b.ae.length≤1048576)(hgl:b.gone.length≤4611686018427387904)(hnl:b.name.length≤4611686018427387904)(hw:∀m∈b.ae,m.flags.length≤1048576):
  run M 74 [.a (af b)] []=some (.c (.bool (fQ b)),[]):=by
 obtain⟨h0,hat,hno,hwi,hig,hin,hso,hgo,hmo⟩:=h;have h1:=gG.al hig b.gid;have h2:=ei.al hno b.name hnl;have h3:=gJ.al hso b.time b.eD;have h4:=cj.kD hwi b.next 1 10000;have h5:=dq.al hgo b.gone 40 hgl;refine ao (b:=bI.m) h0 ⟨b.ae.length+1, ?_⟩;obtain⟨g,hr⟩:=iE (f:=cy (run M) (b.ae.length+1) bI.l0) b.ae.length (nY b) (Bt b) 2 (.bool false) 0 (KA b)
  (fun i hi x c=>bI.j2 hat hin hmo b hml hgl hw i hi x c)
  (fun i hi x c=>bI.bad hat hin hmo b hml hgl hw i hi x c)
  (fun x=>by
   obtain⟨v,x⟩:=x;simp only[aH];simp (maxSteps:=9^9) [bI.l0,Bt,KA])
 cases c1:kD 1 b.gid 9999
 ·simp (maxSteps:=9^9) [a8,bI.m,bI.b,aa,h1,c1,fQ]
 cases c2:nw b.name
 ·simp (maxSteps:=9^9) [a8,bI.m,bI.b,aa,h1,h2,c1,c2,fQ]
 cases c3:kz b.time b.eD
 ·simp (maxSteps:=9^9) [a8,bI.m,bI.b,aa,h1,h2,h3,c1,c2,c3,fQ]
 cases c4:kD 1 b.next 10000
 ·simp (maxSteps:=9^9) [a8,bI.m,bI.b,aa,h1,h2,h3,h4,c1,c2,c3,c4,fQ]
 by_cases c5:10<b.ae.length
 ·have c5':¬b.ae.length≤10:=by omega
  have ci:(10:Int)<b.ae.length:=by omega
  simp (maxSteps:=9^9) [a8,bI.m,bI.b,aa,h1,h2,h3,h4,c1,c2,c3,c4,c5',ci,fQ]
 have c5':b.ae.length≤10:=by omega
 have ci:¬(10:Int)<b.ae.length:=by omega
 cases c6:l_ b.gone 40
 ·simp (maxSteps:=9^9) [a8,bI.m,bI.b,aa,h1,h2,h3,h4,h5,c1,c2,c3,c4,ci,c6,fQ]
 cases q:eE (nY b) b.ae.length with
 |none=>
  simp[Bt,KA,q,lv] at hr;simp (maxSteps:=9^9) [a8,bI.m,bI.b,aa,h1,h2,h3,h4,h5,c1,c2,c3,c4,c5',ci,c6,hr,fQ,q]
 |some k=>
  simp[Bt,q,lv] at hr;simp (maxSteps:=9^9) [a8,bI.m,bI.b,aa,h1,h2,h3,h4,h5,c1,c2,c3,c4,c5',ci,c6,hr,fQ,q]
def sx(b:bz)(i:Nat)(x:Nat×Nat):St:={t:=[(1,.c (.ptr 1 x.1 0 0)),(3,.c (I i))],o:=[(1,⟨x.1,7,true,true,[af b]⟩)],n:=x.2}
def Fm(b:bz)(x:Nat×Nat):St:={t:=[(1,.c (.ptr 1 x.1 0 0)),(3,.c (I b.ae.length)),(43,.c (.bool false))],o:=[(1,⟨x.1,7,true,true,[af b]⟩)],n:=x.2}
theorem bD.j2(hat:bP.k M)(hin:bl.k M)(hmo:dX.k M)(b:bz)(hml:b.ae.length≤1048576)(hgl:b.gone.length≤4611686018427387904)(hw:∀m∈b.ae,m.flags.length≤1048576)
  (i:Nat) (hi:i<b.ae.length) (x:Nat×Nat) (c:nY b i=false):∃y,cy (run M) (b.ae.length+1) bD.l0 (sx b i x)=some (.normal,sx b (i+1) y):=by
   obtain⟨v,x⟩:=x;simp only[aH];have hm:=dX.al hmo b.ae[i] (hw _ (ar hi));have ha:=bP.al hat b b.ae[i].gid hml;have hg:=bl.al hin b.gone b.ae[i].gid hgl;simp only[ah,af] at hm ha hg;rw[nF hi] at c;simp at c;obtain⟨⟨⟨⟨c1,c2⟩,c3⟩,c4⟩,c5⟩:=c;have e5:=cz (i:=i) (by omega);rw[c1] at hm;rw[c4] at ha;rw[decide_eq_false c5] at hg;have c2':¬b.next≤b.ae[i].uid:=by omega
   by_cases c6:0<i
   ·have e6:IntKind.i64.wrap ((i:Int)-1)=((i-1:Nat):Int):=by rw[wrap_i64 (by omega) (by omega)];omega
    have c3':¬b.ae[i].uid≤b.ae[i-1].uid:=by have:=c3 c6;omega
    simp (maxSteps:=9^9) [bD.l0,setAt,sx,ah,hi,hm,ha,hg,c2',c6,c3',e5,e6,(show i-1<b.ae.length by omega)]
   ·simp (maxSteps:=9^9) [bD.l0,setAt,sx,ah,hi,hm,ha,hg,c2',c6,e5]
theorem bD.bad(hat:bP.k M)(hin:bl.k M)(hmo:dX.k M)(b:bz)(hml:b.ae.length≤1048576)(hgl:b.gone.length≤4611686018427387904)(hw:∀m∈b.ae,m.flags.length≤1048576)
  (i:Nat) (hi:i<b.ae.length) (x:Nat×Nat) (c:nY b i=true):∃k,cy (run M) (b.ae.length+1) bD.l0 (sx b i x)=some (.ret,{t:=[(2,.c (.bool false))],o:=[],n:=k}):=by
   obtain⟨v,x⟩:=x;have hm:=dX.al hmo b.ae[i] (hw _ (ar hi));have ha:=bP.al hat b b.ae[i].gid hml;have hg:=bl.al hin b.gone b.ae[i].gid hgl;simp only[ah,af] at hm ha hg;rw[nF hi] at c;cases c1:iY b.ae[i]
   ·rw[c1] at hm;simp (maxSteps:=9^9) [bD.l0,setAt,sx,ah,hi,hm]
   rw[c1] at hm;by_cases c2:b.next≤b.ae[i].uid
   ·simp (maxSteps:=9^9) [bD.l0,setAt,sx,ah,hi,hm,c2]
   have c2':¬b.next≤b.ae[i].uid:=c2;by_cases c6:0<i
   ·have e6:IntKind.i64.wrap ((i:Int)-1)=((i-1:Nat):Int):=by rw[wrap_i64 (by omega) (by omega)];omega
    by_cases c3:b.ae[i].uid≤b.ae[i-1].uid
    ·simp (maxSteps:=9^9) [bD.l0,setAt,sx,ah,hi,hm,c2,c6,c3,e6,(show i-1<b.ae.length by omega)]
    by_cases c5:b.ae[i].gid∈b.gone
    ·rw[decide_eq_true c5] at hg;simp (maxSteps:=9^9) [bD.l0,setAt,sx,ah,hi,hm,c2,c6,c3,e6,(show i-1<b.ae.length by omega),hg]
    rw[decide_eq_false c5] at hg;by_cases c4:dN (gh b.ae b.ae[i].gid)=(i:Int)
    ·simp[c1,c2,c3,c4,c5] at c
    simp (maxSteps:=9^9) [bD.l0,setAt,sx,ah,hi,hm,c2,c6,c3,e6,(show i-1<b.ae.length by omega),ha,hg,c4]
   ·have c3:=c6;by_cases c5:b.ae[i].gid∈b.gone
    ·rw[decide_eq_true c5] at hg;simp (maxSteps:=9^9) [bD.l0,setAt,sx,ah,hi,hm,c2,c6,hg]
    rw[decide_eq_false c5] at hg;by_cases c4:dN (gh b.ae b.ae[i].gid)=(i:Int)
    ·simp[c1,c2,c3,c4,c5] at c
    simp (maxSteps:=9^9) [bD.l0,setAt,sx,ah,hi,hm,c2,c6,ha,hg,c4]
theorem bD.al(h:bD.k M)(b:bz)(hml:b.ae.length≤1048576)(hgl:b.gone.length≤4611686018427387904)(hnl:b.name.length≤4611686018427387904)(hw:∀m∈b.ae,m.flags.length≤1048576):
  run M 88 [.a (af b)] []=some (.c (.bool (fQ b)),[]):=by
 obtain⟨h0,hno,hat,hwi,hin,hso,hgo,hmo⟩:=h;have h1:=bY.kD hwi b.gid 1 9999;have h2:=dW.al hno b.name hnl;have h3:=gH.al hso b.time b.eD;have h4:=bY.kD hwi b.next 1 10000;have h5:=cD.al hgo b.gone 40 hgl;refine ao (b:=bD.m) h0 ⟨b.ae.length+1, ?_⟩;obtain⟨g,hr⟩:=iE (f:=cy (run M) (b.ae.length+1) bD.l0) b.ae.length (nY b) (sx b) 2 (.bool false) 0 (Fm b)
  (fun i hi x c=>bD.j2 hat hin hmo b hml hgl hw i hi x c)
  (fun i hi x c=>bD.bad hat hin hmo b hml hgl hw i hi x c)
  (fun x=>by
   obtain⟨v,x⟩:=x;simp only[aH];simp (maxSteps:=9^9) [bD.l0,sx,Fm])
 cases c1:kD 1 b.gid 9999
 ·simp (maxSteps:=9^9) [a8,bD.m,bD.b,aa,h1,c1,fQ]
 cases c2:nw b.name
 ·simp (maxSteps:=9^9) [a8,bD.m,bD.b,aa,h1,h2,c1,c2,fQ]
 cases c3:kz b.time b.eD
 ·simp (maxSteps:=9^9) [a8,bD.m,bD.b,aa,h1,h2,h3,c1,c2,c3,fQ]
 cases c4:kD 1 b.next 10000
 ·simp (maxSteps:=9^9) [a8,bD.m,bD.b,aa,h1,h2,h3,h4,c1,c2,c3,c4,fQ]
 by_cases c5:10<b.ae.length
 ·have c5':¬b.ae.length≤10:=by omega
  have ci:(10:Int)<b.ae.length:=by omega
  simp (maxSteps:=9^9) [a8,bD.m,bD.b,aa,h1,h2,h3,h4,c1,c2,c3,c4,c5',ci,fQ]
 have c5':b.ae.length≤10:=by omega
 have ci:¬(10:Int)<b.ae.length:=by omega
 cases c6:l_ b.gone 40
 ·simp (maxSteps:=9^9) [a8,bD.m,bD.b,aa,h1,h2,h3,h4,h5,c1,c2,c3,c4,ci,c6,fQ]
 cases q:eE (nY b) b.ae.length with
 |none=>
  simp[sx,Fm,q,lv] at hr;simp (maxSteps:=9^9) [a8,bD.m,bD.b,aa,h1,h2,h3,h4,h5,c1,c2,c3,c4,c5',ci,c6,hr,fQ,q]
 |some k=>
  simp[sx,q,lv] at hr;simp (maxSteps:=9^9) [a8,bD.m,bD.b,aa,h1,h2,h3,h4,h5,c1,c2,c3,c4,c5',ci,c6,hr,fQ,q]
structure aW where
 eD:Int
 time:Int
 boxes:List bz
 gone:List Int
abbrev boxes(l:List bz):T:= .sl false 7 (l.map af)
abbrev ai(s:aW):List T:=[I s.eD,I s.time,boxes s.boxes,ints s.gone]
abbrev aS(s:aW):List T:=[I s.eD,I s.time,.sl true 7 (s.boxes.map af),.sl true 1 (ax s.gone)]
def CD{α:Type}(p:α→Bool)(l:List α)(i:Nat):Bool:=match l[i]? with
 |some x=>p x
 |none=>false
theorem ou{α:Type}{p:α→Bool}{l:List α}{i:Nat}(h:i<l.length):CD p l i=p l[i]:=by simp[CD,h]
theorem rJ{α:Type}(p:α→Bool)(l:List α):∀d i,i+d=l.length→nU (CD p l) d i=((l.drop i).findIdx? p).map (·+i)
 |0,i,h=>by rw[nU,eK (by omega)];rfl
 |d+1,i,h=>by
  have hi:i<l.length:=by omega
  rw[nU,ou hi,bC hi,List.findIdx?_cons];split
  ·simp
  ·rw[rJ p l d (i+1) (by omega),Option.map_map];congr 1;funext x;simp only[Function.comp];omega
theorem ph{α:Type}(p:α→Bool)(l:List α):eE (CD p l) l.length=l.findIdx? p:=by
 rw[eE,rJ p l _ _ (by omega)];simp
theorem xu{α:Type}(p:α→Bool)(l:List α):(eE (CD p l) l.length).isSome=l.any p:=by
 rw[ph,List.findIdx?_isSome]
def named(l:List bz)(s:List UInt8):Option Nat:=l.findIdx? fun b=>decide (b.name=s)
def Lo(st:aW)(s:List UInt8)(i:Nat)(x:Nat×Nat):St:={t:=[(1,.c (S s)),(2,.c (.ptr 2 x.1 0 0)),(5,.c (I i))],o:=[(2,⟨x.1,4,true,true,[ai st]⟩)],n:=x.2}
def Ch{β:Type}(r:Nat)(e:Nat)(E:β→St)(q:Option Nat)(m:β×Nat):Out×St:=match q with
 |none=>(.exit e,E m.1)
 |some k=>(.ret,{t:=[(r,.c (I k))],o:=[],n:=m.2})
theorem xh{β γ:Type}(n:Nat)(p:Nat→Bool){f:St→Option (Out×St)}(S:Nat→β→St)(r:Nat)(e:Nat)(E:γ→St)(z:γ)
  (h1:∀i,i<n→∀x,p i=false→∃y,f (S i x)=some (.normal,S (i+1) y)) (h2:∀i,i<n→∀x,p i=true→∃k,f (S i x)=some (.ret,{t:=[(r,.c (I i))],o:=[],n:=k}))
  (h3:∀x,∃y,f (S n x)=some (.exit e,E y)):∃g:β→γ×Nat,∀x,fi f (n+1) (S 0 x)=some (Ch r e E (eE p n) (g x)):=
 mW n p S (Ch r e E) (fun q m=>by cases q<;>simp[Ch]) h1 (fun i hi x c=>by
  obtain⟨k,hk⟩:=h2 i hi x c;exact⟨(z,k),hk⟩) (fun x=>by
  obtain⟨y,hy⟩:=h3 x;exact⟨(y,0),hy⟩)
def Nz(st:aW)(s:List UInt8)(x:Nat×Nat):St:={t:=[(1,.c (S s)),(2,.c (.ptr 2 x.1 0 0)),(5,.c (I st.boxes.length)),(10,.c (.bool false))],o:=[(2,⟨x.1,4,true,true,[ai st]⟩)],n:=x.2}
theorem cG.al(h:cG.k M)(st:aW)(s:List UInt8)(hb:st.boxes.length≤1048576):run M 226 [.a (ai st),.c (S s)] []=some (.c (I (dN (named st.boxes s))),[]):=by
 refine ao (b:=cG.m) h ⟨st.boxes.length+1, ?_⟩;obtain⟨g,hr⟩:=xh (f:=cy (run M) (st.boxes.length+1) cG.l0) st.boxes.length (CD (fun b=>decide (b.name=s)) st.boxes) (Lo st s) 4 0 (Nz st s) (0,0)
  (fun i hi x c=>by
   obtain⟨v,x⟩:=x;rw[ou hi,decide_eq_false_iff_not] at c;have e5:=cz (i:=i) (by omega);simp only[aH];simp (maxSteps:=9^9) [cG.l0,Lo,hi,c,af,e5])
  (fun i hi x c=>by
   obtain⟨v,x⟩:=x;rw[ou hi,decide_eq_true_eq] at c;simp (maxSteps:=9^9) [cG.l0,Lo,hi,c,af])
  (fun x=>by
   obtain⟨v,x⟩:=x;simp only[aH];simp (maxSteps:=9^9) [cG.l0,Lo,Nz])
 rw[ph] at hr;unfold named;cases hm:st.boxes.findIdx? fun b=>decide (b.name=s) with
 |none=>
  simp[Lo,hm,Ch,Nz] at hr;simp (maxSteps:=9^9) [a8,cG.m,cG.b,aa,hr,dN]
 |some k=>
  simp[Lo,hm,Ch] at hr;simp (maxSteps:=9^9) [a8,cG.m,cG.b,aa,hr,dN]
theorem fE.al(h:fE.k M)(b:bz)(s:List UInt8):run M 271 [.a (af b),.c (.vp [S s] 0)] []=some (.c (.bool (decide (b.name=s))),[]):=by
 refine ao (b:=fE.m) h ⟨0, ?_⟩;simp (maxSteps:=9^9) [a8,fE.m,fE.b,aa]
def Eb(l:List bz)(s:List UInt8)(i:Nat)(x:Nat):St:={t:=[(0,.c (boxes l)),(1,.c (.fn 271 [.vp [S s] 0])),(7,.c (I l.length)),(8,.c (I i))],o:=[],n:=x}
def Kt(l:List bz)(s:List UInt8)(x:Nat):St:={t:=[(0,.c (boxes l)),(1,.c (.fn 271 [.vp [S s] 0])),(7,.c (I l.length)),(8,.c (I l.length)),(9,.c (.bool false))],o:=[],n:=x}
theorem dS.index(h:aA.k M)(h2:fE.k M)(l:List bz)(s:List UInt8)(hl:l.length≤1048576):
  run M 200 [.c (boxes l),.c (.fn 271 [.vp [S s] 0])] []=some (.c (I (dN (named l s))),[]):=by
 refine ao (b:=aA.m) h ⟨l.length+1, ?_⟩;obtain⟨g,hr⟩:=xh (f:=cy (run M) (l.length+1) aA.l0) l.length (CD (fun b=>decide (b.name=s)) l) (Eb l s) 4 0 (Kt l s) 0
  (fun i hi x c=>by
   have hm:=fE.al h2 l[i] s;rw[ou hi] at c;rw[c] at hm;simp only[af] at hm;have e5:=cz (i:=i) (by omega);simp (maxSteps:=9^9) [aA.l0,Eb,hi,hm,af,e5])
  (fun i hi x c=>by
   have hm:=fE.al h2 l[i] s;rw[ou hi] at c;rw[c] at hm;simp only[af] at hm;simp (maxSteps:=9^9) [aA.l0,Eb,hi,hm,af])
  (fun x=>by simp (maxSteps:=9^9) [aA.l0,Eb,Kt])
 rw[ph] at hr;unfold named;cases hm:l.findIdx? fun b=>decide (b.name=s) with
 |none=>
  simp[Eb,hm,Ch,Kt] at hr;simp (maxSteps:=9^9) [a8,aA.m,aA.b,aa,hr,dN]
 |some k=>
  simp[Eb,hm,Ch] at hr;simp (maxSteps:=9^9) [a8,aA.m,aA.b,aa,hr,dN]
theorem dS.al(h:dS.k M)(st:aW)(s:List UInt8)(hb:st.boxes.length≤1048576):run M 228 [.a (ai st),.c (S s)] []=some (.c (I (dN (named st.boxes s))),[]):=by
 have h1:=dS.index h.2.1 h.2.2 st.boxes s hb;refine ao (b:=dS.m) h.1 ⟨0, ?_⟩;simp (maxSteps:=9^9) [a8,dS.m,dS.b,aa,h1]
def tJ(time:Int)(m:bp):Bool:=m.flags.any fun r=>decide (time<r.time)
def late(b:bz)(time:Int):Bool:=decide (time<b.time)||b.ae.any (tJ time)
def Lf(b:bz)(time:Int)(i:Nat)(x:Nat×Nat):St:={t:=[(1,.c (I time)),(2,.c (.ptr 2 x.1 0 0)),(10,.c (ae b.ae)),(11,.c (I b.ae.length)),(12,.c (I i))],o:=[(2,⟨x.1,7,true,true,[af b]⟩)],n:=x.2}
def Nh(b:bz)(time:Int)(x:Nat×Nat):St:={t:=[(1,.c (I time)),(2,.c (.ptr 2 x.1 0 0)),(10,.c (ae b.ae)),(11,.c (I b.ae.length)),(12,.c (I b.ae.length)),(13,.c (.bool false))],o:=[(2,⟨x.1,7,true,true,[af b]⟩)],n:=x.2}
def B8(b:bz)(time:Int)(i:Nat)(l:List mB)(k:Nat)(x:Nat×Nat):St:={t:=[(1,.c (I time)),(2,.c (.ptr 2 x.1 0 0)),(10,.c (ae b.ae)),(11,.c (I b.ae.length)),(12,.c (I i)),(17,.c (jE l)),(18,.c (I l.length)),(19,.c (I k))],o:=[(2,⟨x.1,7,true,true,[af b]⟩)],n:=x.2}
def HZ(b:bz)(time:Int)(i:Nat)(l:List mB)(x:Nat×Nat):St:={t:=[(1,.c (I time)),(2,.c (.ptr 2 x.1 0 0)),(10,.c (ae b.ae)),(11,.c (I b.ae.length)),(12,.c (I i)),(17,.c (jE l)),(18,.c (I l.length)),(19,.c (I l.length)),(20,.c (.bool false))],o:=[(2,⟨x.1,7,true,true,[af b]⟩)],n:=x.2}
theorem any_none{α:Type}{p:α→Bool}{l:List α}(h:l.any p=false):eE (CD p l) l.length=none:=by
 have:=xu p l;rw[h] at this;simpa using this
theorem any_some{α:Type}{p:α→Bool}{l:List α}(h:l.any p=true):∃k,eE (CD p l) l.length=some k:=by
 have:=xu p l;rw[h] at this;exact Option.isSome_iff_exists.1 this
theorem cQ.inner(b:bz)(time:Int)(i K:Nat)(l:List mB)(hl:l.length≤1048576):∃g:Nat×Nat→(Nat×Nat)×Nat,∀x,fi (cy (run M) K cQ.l1) (l.length+1) (B8 b time i l 0 x)=some (lv 4 (.bool true) 2 (HZ b time i l) (eE (CD (fun r=>decide (time<r.time)) l) l.length) (g x)):=
 iE l.length (CD (fun r=>decide (time<r.time)) l) (B8 b time i l) 4 (.bool true) 2 (HZ b time i l)
  (fun i hi x c=>by
   obtain⟨v,x⟩:=x;rw[ou hi,decide_eq_false_iff_not] at c;have e5:=cz (i:=i) (by omega);simp only[aH];simp (maxSteps:=9^9) [cQ.l1,setAt,B8,hi,c,aF,e5])
  (fun i hi x c=>by
   obtain⟨v,x⟩:=x;rw[ou hi,decide_eq_true_eq] at c;simp (maxSteps:=9^9) [cQ.l1,setAt,B8,hi,c,aF])
  (fun x=>by
   obtain⟨v,x⟩:=x;simp only[aH];simp (maxSteps:=9^9) [cQ.l1,B8,HZ])
theorem cQ.al(h:cQ.k M)(b:bz)(time:Int)(hb:b.ae.length≤1048576)(hf:∀m∈b.ae,m.flags.length≤1048576):run M 229 [.a (af b),.c (I time)] []=some (.c (.bool (late b time)),[]):=by
 refine ao (b:=cQ.m) h ⟨b.ae.length+1048577, ?_⟩;obtain⟨K,hK⟩:∃K,b.ae.length+1048577=K:=⟨_,rfl⟩
 rw[hK];obtain⟨g,hr⟩:=iE (f:=cy (run M) K cQ.l0) b.ae.length (CD (tJ time) b.ae) (Lf b time) 4 (.bool true) 0 (Nh b time)
  (fun i hi x c=>by
   obtain⟨v,x⟩:=x;rw[ou hi,tJ] at c;have e5:=cz (i:=i) (by omega);have hfl:=hf _ (ar hi);obtain⟨g,hr⟩:=cQ.inner (M:=M) b time i K b.ae[i].flags hfl;rw[any_none c] at hr;have hr2:=fun x=>gP (hr x) (show b.ae[i].flags.length+1≤K by omega)
   simp[B8,HZ,lv] at hr2;simp only[aH];simp (maxSteps:=9^9) [cQ.l0,setAt,Lf,hi,ah,e5,hr2])
  (fun i hi x c=>by
   obtain⟨v,x⟩:=x;rw[ou hi,tJ] at c;have hfl:=hf _ (ar hi);obtain⟨g,hr⟩:=cQ.inner (M:=M) b time i K b.ae[i].flags hfl;obtain⟨k,hk⟩:=any_some c;rw[hk] at hr;have hr2:=fun x=>gP (hr x) (show b.ae[i].flags.length+1≤K by omega)
   simp[B8,lv] at hr2;simp (maxSteps:=9^9) [cQ.l0,setAt,Lf,hi,ah,hr2])
  (fun x=>by
   obtain⟨v,x⟩:=x;simp only[aH];simp (maxSteps:=9^9) [cQ.l0,Lf,Nh])
 have hr2:=fun x=>gP (hr x) (show b.ae.length+1≤K by omega)
 unfold late;cases c:b.ae.any (tJ time)
 ·rw[any_none c] at hr2;simp[Lf,Nh,lv] at hr2;simp (maxSteps:=9^9) [a8,cQ.m,cQ.b,aa,hr2]
 ·obtain⟨k,hk⟩:=any_some c;rw[hk] at hr2;simp[Lf,lv] at hr2;simp (maxSteps:=9^9) [a8,cQ.m,cQ.b,aa,hr2]
def DW(b:bz)(time:Int)(i:Nat)(x:Nat×Nat):St:={t:=[(1,.c (I time)),(2,.c (.ptr 2 x.1 0 0)),(5,.c (I i))],o:=[(2,⟨x.1,7,true,true,[af b]⟩)],n:=x.2}
def JT(b:bz)(time:Int)(x:Nat×Nat):St:={t:=[(1,.c (I time)),(2,.c (.ptr 2 x.1 0 0)),(5,.c (I b.ae.length)),(16,.c (.bool false))],o:=[(2,⟨x.1,7,true,true,[af b]⟩)],n:=x.2}
def BL(b:bz)(time:Int)(i:Nat)(k:Nat)(x:Nat×Nat):St:={t:=[(1,.c (I time)),(2,.c (.ptr 2 x.1 0 0)),(5,.c (I i)),(6,.c (I k))],o:=[(2,⟨x.1,7,true,true,[af b]⟩)],n:=x.2}
def HA(b:bz)(time:Int)(i:Nat)(k:Nat)(x:Nat×Nat):St:={t:=[(1,.c (I time)),(2,.c (.ptr 2 x.1 0 0)),(5,.c (I i)),(6,.c (I k)),(27,.c (.bool false))],o:=[(2,⟨x.1,7,true,true,[af b]⟩)],n:=x.2}
theorem b4.inner(b:bz)(time:Int)(i K:Nat)(hi:i<b.ae.length)(hl:b.ae[i].flags.length≤1048576):∃g:Nat×Nat→(Nat×Nat)×Nat,∀x,fi (cy (run M) K b4.l1) (b.ae[i].flags.length+1) (BL b time i 0 x)=some (lv 4 (.bool false) 2 (HA b time i b.ae[i].flags.length) (eE (CD (fun r=>decide (time<r.time)) b.ae[i].flags) b.ae[i].flags.length) (g x)):=
 iE b.ae[i].flags.length (CD (fun r=>decide (time<r.time)) b.ae[i].flags) (BL b time i) 4 (.bool false) 2 (HA b time i b.ae[i].flags.length)
  (fun k hk x c=>by
   obtain⟨v,x⟩:=x;rw[ou hk,decide_eq_false_iff_not] at c;have e5:=cz (i:=k) (by omega);simp only[aH];simp (maxSteps:=9^9) [b4.l1,BL,hi,hk,c,aF,ah,e5])
  (fun k hk x c=>by
   obtain⟨v,x⟩:=x;rw[ou hk,decide_eq_true_eq] at c;simp (maxSteps:=9^9) [b4.l1,BL,hi,hk,c,aF,ah])
  (fun x=>by
   obtain⟨v,x⟩:=x;simp only[aH];simp (maxSteps:=9^9) [b4.l1,BL,HA,hi,ah])
theorem b4.al(h:b4.k M)(b:bz)(time:Int)(hb:b.ae.length≤1048576)(hf:∀m∈b.ae,m.flags.length≤1048576):run M 227 [.a (af b),.c (I time)] []=some (.c (.bool (!late b time)),[]):=by
 refine ao (b:=b4.m) h ⟨b.ae.length+1048577, ?_⟩;obtain⟨K,hK⟩:∃K,b.ae.length+1048577=K:=⟨_,rfl⟩
 rw[hK];obtain⟨g,hr⟩:=iE (f:=cy (run M) K b4.l0) b.ae.length (CD (tJ time) b.ae) (DW b time) 4 (.bool false) 0 (JT b time)
  (fun i hi x c=>by
   obtain⟨v,x⟩:=x;rw[ou hi,tJ] at c;have e5:=cz (i:=i) (by omega);have hfl:=hf _ (ar hi);obtain⟨g,hr⟩:=b4.inner (M:=M) b time i K hi hfl;rw[any_none c] at hr;have hr2:=fun x=>gP (hr x) (show b.ae[i].flags.length+1≤K by omega)
   simp[BL,HA,lv] at hr2;simp only[aH];simp (maxSteps:=9^9) [b4.l0,DW,hi,e5,hr2])
  (fun i hi x c=>by
   obtain⟨v,x⟩:=x;rw[ou hi,tJ] at c;have hfl:=hf _ (ar hi);obtain⟨g,hr⟩:=b4.inner (M:=M) b time i K hi hfl;obtain⟨k,hk⟩:=any_some c;rw[hk] at hr;have hr2:=fun x=>gP (hr x) (show b.ae[i].flags.length+1≤K by omega)
   simp[BL,lv] at hr2;simp (maxSteps:=9^9) [b4.l0,DW,hi,hr2])
  (fun x=>by
   obtain⟨v,x⟩:=x;simp only[aH];simp (maxSteps:=9^9) [b4.l0,DW,JT])
 have hr2:=fun x=>gP (hr x) (show b.ae.length+1≤K by omega)
 unfold late;by_cases c0:time<b.time
 ·simp (maxSteps:=9^9) [a8,b4.m,b4.b,aa,c0]
 cases c:b.ae.any (tJ time)
 ·rw[any_none c] at hr2;simp[DW,JT,lv] at hr2;simp (maxSteps:=9^9) [a8,b4.m,b4.b,aa,hr2,c0]
 ·obtain⟨k,hk⟩:=any_some c;rw[hk] at hr2;simp[DW,lv] at hr2;simp (maxSteps:=9^9) [a8,b4.m,b4.b,aa,hr2,c0]
def b_(b:bz):List Int:=b.ae.map (·.gid)
def seenAt(s:aW)(i:Nat):List Int:=(s.boxes.take i).flatMap b_
theorem px{s:aW}{i:Nat}(h:i<s.boxes.length):seenAt s (i+1)=seenAt s i++b_ s.boxes[i]:=by
 rw[seenAt,seenAt,List.take_succ_eq_append_getElem h,List.flatMap_append];simp
def rK(seen l:List Int)(k:Nat):Bool:=match l[k]? with
 |some g=>decide (g∈seen++l.take k)
 |none=>false
theorem p5{seen l:List Int}{k:Nat}(h:k<l.length):rK seen l k=decide (l[k]∈seen++l.take k):=by simp[rK,h]
def uF(seen l:List Int):Bool:=(eE (rK seen l) l.length).isSome
def uN(s:aW)(i:Nat):Bool:=match s.boxes[i]? with
 |some b=> !fQ b||(decide (0<i)&&match s.boxes[i-1]? with|some p=>decide (b.gid≤p.gid)|none=>false)|| !decide (dN (named s.boxes b.name)=(i:Int))||decide (b.gid∈s.gone)||late b s.time
 |none=>false
theorem ot{s:aW}{i:Nat}(h:i<s.boxes.length):uN s i=(!fQ s.boxes[i]||(decide (0<i)&&decide (s.boxes[i].gid≤s.boxes[i-1].gid))|| !decide (dN (named s.boxes s.boxes[i].name)=(i:Int))||
  decide (s.boxes[i].gid∈s.gone)||late s.boxes[i] s.time):=by simp[uN,h,(show i-1<s.boxes.length by omega)]
def qa(s:aW)(i:Nat):Bool:=uN s i||match s.boxes[i]? with
 |some b=>uF (seenAt s i) (b_ b)
 |none=>false
theorem nZ{s:aW}{i:Nat}(h:i<s.boxes.length):qa s i=(uN s i||uF (seenAt s i) (b_ s.boxes[i])):=by simp[qa,h]
def bu(s:aW):Bool:=kD 1 s.eD 2&&kD 0 s.time 100000&&decide (s.boxes.length≤5)&&l_ s.gone 20&&(eE (qa s) s.boxes.length).isNone
structure iw (b:bz):Prop where
 m:b.ae.length≤1048576
 g:b.gone.length≤1048576
 n:b.name.length≤1048576
 f:∀m∈b.ae,m.flags.length≤1048576
structure iI (s:aW):Prop where
 b:s.boxes.length≤1048576
 g:s.gone.length≤1048576
 i:∀b∈s.boxes,iw b
 s:(s.boxes.flatMap b_).length≤1048576
theorem rZ{s:aW}(h:iI s)(i:Nat):(seenAt s i).length≤1048576:=by
 refine Nat.le_trans ?_ h.s
 conv=>rhs;rw[←dm i s.boxes]
 rw[List.flatMap_append,aC];exact Nat.le_add_right _ _
def CZ(s:aW)(seen:List Int)(x:Nat×Nat×Nat):List (Nat×Ob):=[(1,⟨x.1,4,true,true,[ai s]⟩),(30,⟨x.2.1,1,true,false,ax seen⟩)]
def zh(s:aW)(i:Nat)(x:Nat×Nat×Nat):St:={t:=[(1,.c (.ptr 1 x.1 0 0)),(3,.c (.row 30 x.2.1 0 (seenAt s i).length)),(32,.c (boxes s.boxes)),(33,.c (I s.boxes.length)),(34,.c (I i))],o:=CZ s (seenAt s i) x,n:=x.2.2}
def JX(s:aW)(x:Nat×Nat×Nat):St:={t:=[(1,.c (.ptr 1 x.1 0 0)),(3,.c (.row 30 x.2.1 0 (seenAt s s.boxes.length).length)),(32,.c (boxes s.boxes)),(33,.c (I s.boxes.length)),(34,.c (I s.boxes.length)),(35,.c (.bool false))],o:=CZ s (seenAt s s.boxes.length) x,n:=x.2.2}
def BT(s:aW)(b:bz)(seen:List Int)(i k:Nat)(x:Nat×Nat×Nat):St:={t:=[(1,.c (.ptr 1 x.1 0 0)),(3,.c (.row 30 x.2.1 0 (seen.length+k))),(32,.c (boxes s.boxes)),(33,.c (I s.boxes.length)),(34,.c (I i)),(80,.c (ae b.ae)),(81,.c (I b.ae.length)),(82,.c (I k))],o:=CZ s (seen++(b_ b).take k) x,n:=x.2.2}
def HD(s:aW)(b:bz)(seen:List Int)(i:Nat)(x:Nat×Nat×Nat):St:={t:=[(1,.c (.ptr 1 x.1 0 0)),(3,.c (.row 30 x.2.1 0 (seen.length+b.ae.length))),(32,.c (boxes s.boxes)),(33,.c (I s.boxes.length)),(34,.c (I i)),(80,.c (ae b.ae)),(81,.c (I b.ae.length)),(82,.c (I b.ae.length)),(83,.c (.bool false))],o:=CZ s (seen++b_ b) x,n:=x.2.2}
theorem jF(b:bz):(b_ b).length=b.ae.length:=by simp[b_]
theorem o5(b:bz)(k:Nat)(h:k<(b_ b).length):(b_ b)[k]=(b.ae[k]'(by simpa [b_] using h)).gid:=by simp[b_]
theorem aQ.inner(hin:aL.k M)(s:aW)(b:bz)(seen:List Int)(i K:Nat)(hl:b.ae.length≤1048576)(hs:seen.length≤1048576):
  ∃g:Nat×Nat×Nat→(Nat×Nat×Nat)×Nat,∀x,fi (cy (run M) K aQ.l1) (b.ae.length+1) (BT s b seen i 0 x)=some (lv 2 (.bool false) 2 (HD s b seen i) (eE (rK seen (b_ b)) b.ae.length) (g x)):=
 iE b.ae.length (rK seen (b_ b)) (BT s b seen i) 2 (.bool false) 2 (HD s b seen i)
  (fun k hk x c=>by
   obtain⟨v,w,x⟩:=x;have hk':k<(b_ b).length:=by rw[jF];exact hk
   rw[p5 hk'] at c;have hlen:(seen++(b_ b).take k).length=seen.length+k:=by rw[aC,jn,Nat.min_eq_left (by omega)]
   have h1:=aL.al hin (seen++(b_ b).take k) (b_ b)[k] (by rw[hlen];omega);rw[c] at h1;rw[o5] at h1;simp only[ints] at h1;have e5:=cz (i:=k) (by omega);have e6:seen.length+(k+1)≤4294967296:=by omega
   have e7:seen++(b_ b).take (k+1)=(seen++(b_ b).take k)++[b.ae[k].gid]:=by rw[List.take_succ_eq_append_getElem hk',o5,ct]
   have e8:ax ((seen++(b_ b).take k)++[b.ae[k].gid])=ax (seen++(b_ b).take k)++[[I b.ae[k].gid]]:=by simp[ax]
   have e9:(ax (seen++(b_ b).take k)).length=seen.length+k:=by simp only[ax,gD];exact hlen
   simp only[aH,BT,CZ,e7,e8];generalize ax (seen++(b_ b).take k)=rr at*;simp (maxSteps:=9^9) [aQ.l1,setAt,hk,h1,ah,e5,e6,e9,ab,Nat.add_assoc])
  (fun k hk x c=>by
   obtain⟨v,w,x⟩:=x;have hk':k<(b_ b).length:=by rw[jF];exact hk
   rw[p5 hk'] at c;have hlen:(seen++(b_ b).take k).length=seen.length+k:=by rw[aC,jn,Nat.min_eq_left (by omega)]
   have h1:=aL.al hin (seen++(b_ b).take k) (b_ b)[k] (by rw[hlen];omega);rw[c] at h1;rw[o5] at h1;simp only[ints] at h1;have e9:(ax (seen++(b_ b).take k)).length=seen.length+k:=by simp only[ax,gD];exact hlen
   simp only[BT,CZ];generalize ax (seen++(b_ b).take k)=rr at*;simp (maxSteps:=9^9) [aQ.l1,setAt,hk,h1,ah,e9,ab])
  (fun x=>by
   obtain⟨v,w,x⟩:=x;have e7:(b_ b).take b.ae.length=b_ b:=ab (by rw[jF];omega);simp only[aH,BT,HD,CZ,e7];simp (maxSteps:=9^9) [aQ.l1])
theorem iw.ok{b:bz}(h:iw b):b.ae.length≤1048576∧b.gone.length≤4611686018427387904∧b.name.length≤4611686018427387904∧∀m∈b.ae,m.flags.length≤1048576:=⟨h.m,by have:=h.g;omega,by have:=h.n;omega,h.f⟩
structure aQ.ks (M:Nat→Option Body):Prop where
 box:bI.k M
 IS:aL.k M
 LK:dS.k M
 LU:cQ.k M
theorem aQ.j2(h:aQ.ks M)(s:aW)(hs:iI s)(K:Nat)(hK:2000000≤K)(i:Nat)(hi:i<s.boxes.length)(x:Nat×Nat×Nat)(c:qa s i=false):
  ∃y,cy (run M) K aQ.l0 (zh s i x)=some (.normal,zh s (i+1) y):=by
 have hb:=hs.i _ (ar hi);have h1:=bI.al h.box s.boxes[i] hb.ok.1 hb.ok.2.1 hb.ok.2.2.1 hb.ok.2.2.2;have h2:=dS.al h.LK s s.boxes[i].name hs.b;have h3:=aL.al h.IS s.gone s.boxes[i].gid (by have:=hs.g;omega);have h4:=cQ.al h.LU s.boxes[i] s.time hb.m hb.f;have hsl:=rZ hs i;obtain⟨g,hr⟩:=aQ.inner h.IS s s.boxes[i] (seenAt s i) i K hb.m hsl;have hr2:=fun x=>gP (hr x) (show s.boxes[i].ae.length+1≤K by have:=hb.m;omega)
 rw[nZ hi,ot hi] at c;simp only[fc,Bool.and_eq_false_iff,Bool.not_eq_false',decide_eq_false_iff_not,decide_eq_true_eq] at c;obtain⟨⟨⟨⟨⟨c1,c2⟩,c3⟩,c4⟩,c5⟩,c6⟩:=c;have e5:IntKind.i64.wrap ((i:Int)+1)=(i:Int)+1:=wrap_i64 (by have:=hs.b;omega) (by have:=hs.b;omega);rw[c1] at h1;rw[c3] at h2;rw[decide_eq_false c4] at h3;rw[c5] at h4;have q:eE (rK (seenAt s i) (b_ s.boxes[i])) s.boxes[i].ae.length=none:=by
  unfold uF at c6;rw[jF] at c6;simpa using c6
 rw[q] at hr2;obtain⟨v,w,x⟩:=x;simp only[af,ai] at h1 h2 h4;simp only[ints] at h3;have hz:ax (seenAt s i++b_ s.boxes[i])=ax (seenAt s i)++ax (b_ s.boxes[i]):=by simp[ax]
 simp[BT,HD,CZ,lv] at hr2;simp only[zh,CZ,px hi,aH];have hgl:=jF s.boxes[i];by_cases c7:0<i
 ·have e6:IntKind.i64.wrap ((i:Int)-1)=((i-1:Nat):Int):=by rw[wrap_i64 (by have:=hs.b;omega) (by have:=hs.b;omega)];omega
  have c2':¬s.boxes[i].gid≤s.boxes[i-1].gid:=by
   rcases c2 with c2|c2
   ·exact absurd c7 c2
   ·exact c2
  simp (maxSteps:=9^9) [aQ.l0,aa,setAt,hi,h1,h2,h3,h4,c7,c2',e5,e6,hr2,hgl,af,(show i-1<s.boxes.length by omega)]
 ·simp (maxSteps:=9^9) [aQ.l0,aa,setAt,hi,h1,h2,h3,h4,c7,e5,hr2,hgl,af]
theorem aQ.bad(h:aQ.ks M)(s:aW)(hs:iI s)(K:Nat)(hK:2000000≤K)(i:Nat)(hi:i<s.boxes.length)(x:Nat×Nat×Nat)(c:qa s i=true):
  ∃k,cy (run M) K aQ.l0 (zh s i x)=some (.ret,{t:=[(2,.c (.bool false))],o:=[],n:=k}):=by
 have hb:=hs.i _ (ar hi);have h1:=bI.al h.box s.boxes[i] hb.ok.1 hb.ok.2.1 hb.ok.2.2.1 hb.ok.2.2.2;have h2:=dS.al h.LK s s.boxes[i].name hs.b;have h3:=aL.al h.IS s.gone s.boxes[i].gid (by have:=hs.g;omega);have h4:=cQ.al h.LU s.boxes[i] s.time hb.m hb.f;have hsl:=rZ hs i;obtain⟨g,hr⟩:=aQ.inner h.IS s s.boxes[i] (seenAt s i) i K hb.m hsl;have hr2:=fun x=>gP (hr x) (show s.boxes[i].ae.length+1≤K by have:=hb.m;omega)
 rw[nZ hi,ot hi] at c;obtain⟨v,w,x⟩:=x;simp only[af,ai] at h1 h2 h4;simp only[ints] at h3;simp only[zh,CZ];cases c1:fQ s.boxes[i]
 ·rw[c1] at h1;simp (maxSteps:=9^9) [aQ.l0,aa,setAt,hi,h1,af]
 rw[c1] at h1;have tail:∀(hp:¬0<i∨¬s.boxes[i].gid≤s.boxes[i-1].gid),∃k,cy (run M) K aQ.l0 {t:=[(1,.c (.ptr 1 v 0 0)),(3,.c (.row 30 w 0 (seenAt s i).length)),(32,.c (boxes s.boxes)),(33,.c (I s.boxes.length)),(34,.c (I i))],o:=[(1,⟨v,4,true,true,[ai s]⟩),(30,⟨w,1,true,false,ax (seenAt s i)⟩)],n:=x}=some (.ret,{t:=[(2,.c (.bool false))],o:=[],n:=k}):=by
  intro hp;have hpp:(decide (0<i)&&decide (s.boxes[i].gid≤s.boxes[i-1].gid))=false:=by
   rcases hp with hp|hp<;>simp[hp]
  have key:(∀(Q:Prop),(0<i→¬s.boxes[i].gid≤s.boxes[i-1].gid→Q)→(¬0<i→Q)→Q):=by
   intro Q q1 q2;by_cases c7:0<i
   ·rcases hp with hp|hp
    ·exact absurd c7 hp
    ·exact q1 c7 hp
   ·exact q2 c7
  have e6:0<i→IntKind.i64.wrap ((i:Int)-1)=((i-1:Nat):Int):=fun c7=>by rw[wrap_i64 (by have:=hs.b;omega) (by have:=hs.b;omega)];omega
  have hi1:i-1<s.boxes.length:=by omega
  by_cases c3:dN (named s.boxes s.boxes[i].name)=(i:Int);rotate_left
  ·exact key _ (fun c7 c2=>by simp (maxSteps:=9^9) [aQ.l0,aa,setAt,hi,h1,h2,c7,c2,c3,e6 c7,af,hi1]) (fun c7=>by simp (maxSteps:=9^9) [aQ.l0,aa,setAt,hi,h1,h2,c7,c3,af])
  rw[c3] at h2;by_cases c4:s.boxes[i].gid∈s.gone
  ·rw[decide_eq_true c4] at h3;exact key _ (fun c7 c2=>by simp (maxSteps:=9^9) [aQ.l0,aa,setAt,hi,h1,h2,h3,c7,c2,e6 c7,af,hi1]) (fun c7=>by simp (maxSteps:=9^9) [aQ.l0,aa,setAt,hi,h1,h2,h3,c7,af])
  rw[decide_eq_false c4] at h3;cases c5:late s.boxes[i] s.time;rotate_left
  ·rw[c5] at h4;exact key _ (fun c7 c2=>by simp (maxSteps:=9^9) [aQ.l0,aa,setAt,hi,h1,h2,h3,h4,c7,c2,e6 c7,af,hi1]) (fun c7=>by simp (maxSteps:=9^9) [aQ.l0,aa,setAt,hi,h1,h2,h3,h4,c7,af])
  rw[c5] at h4;have c6:uF (seenAt s i) (b_ s.boxes[i])=true:=by
   rw[c1,hpp,c3,c5] at c;simpa [c4] using c
  obtain⟨k,hk⟩:∃k,eE (rK (seenAt s i) (b_ s.boxes[i])) s.boxes[i].ae.length=some k:=by
   unfold uF at c6;rw[jF] at c6;exact Option.isSome_iff_exists.1 c6
  rw[hk] at hr2;simp[BT,CZ,lv] at hr2;have hgl:=jF s.boxes[i];exact key _ (fun c7 c2=>by simp (maxSteps:=9^9) [aQ.l0,aa,setAt,hi,h1,h2,h3,h4,c7,c2,e6 c7,hr2,af,hi1]) (fun c7=>by simp (maxSteps:=9^9) [aQ.l0,aa,setAt,hi,h1,h2,h3,h4,c7,hr2,af])
 by_cases c7:0<i
 ·by_cases c2:s.boxes[i].gid≤s.boxes[i-1].gid
  ·have e6:IntKind.i64.wrap ((i:Int)-1)=((i-1:Nat):Int):=by rw[wrap_i64 (by have:=hs.b;omega) (by have:=hs.b;omega)];omega
   simp (maxSteps:=9^9) [aQ.l0,aa,setAt,hi,h1,c7,c2,e6,af,(show i-1<s.boxes.length by omega)]
  ·exact tail (.inr c2)
 ·exact tail (.inl c7)
theorem aQ.al(h:aQ.k M)(s:aW)(hs:iI s):run M 150 [.a (ai s)] []=some (.c (.bool (bu s)),[]):=by
 obtain⟨h0,k1,k2,k3,k4,k5,k6⟩:=h;have h1:=cj.kD k2 s.eD 1 2;have h2:=cj.kD k2 s.time 0 100000;have h3:=dq.al k4 s.gone 20 (by have:=hs.g;omega);refine ao (b:=aQ.m) h0 ⟨4000000, ?_⟩;obtain⟨K,hK⟩:∃K,4000000=K:=⟨_,rfl⟩
 rw[hK];obtain⟨g,hr⟩:=iE (f:=cy (run M) K aQ.l0) s.boxes.length (qa s) (zh s) 2 (.bool false) 0 (JX s)
  (fun i hi x c=>aQ.j2 ⟨k1,k3,k5,k6⟩ s hs K (by omega) i hi x c)
  (fun i hi x c=>aQ.bad ⟨k1,k3,k5,k6⟩ s hs K (by omega) i hi x c)
  (fun x=>by
   obtain⟨v,w,x⟩:=x;simp only[aH];simp (maxSteps:=9^9) [aQ.l0,aa,zh,JX,CZ])
 have hr2:=fun x=>gP (hr x) (show s.boxes.length+1≤K by have:=hs.b;omega)
 cases c1:kD 1 s.eD 2
 ·simp (maxSteps:=9^9) [a8,aQ.m,aQ.b,aa,h1,c1,bu]
 cases c2:kD 0 s.time 100000
 ·simp (maxSteps:=9^9) [a8,aQ.m,aQ.b,aa,h1,h2,c1,c2,bu]
 by_cases c3:5<s.boxes.length
 ·have c3':¬s.boxes.length≤5:=by omega
  have ci:(5:Int)<s.boxes.length:=by omega
  simp (maxSteps:=9^9) [a8,aQ.m,aQ.b,aa,h1,h2,c1,c2,c3',ci,bu]
 have c3':s.boxes.length≤5:=by omega
 have ci:¬(5:Int)<s.boxes.length:=by omega
 cases c4:l_ s.gone 20
 ·simp (maxSteps:=9^9) [a8,aQ.m,aQ.b,aa,h1,h2,h3,c1,c2,ci,c4,bu]
 have hz:seenAt s 0=[]:=by simp[seenAt]
 cases q:eE (qa s) s.boxes.length with
 |none=>
  simp[zh,JX,CZ,q,lv,hz,ax] at hr2;simp (maxSteps:=9^9) [a8,aQ.m,aQ.b,aa,h1,h2,h3,c1,c2,c3',ci,c4,hr2,bu,q]
 |some k=>
  simp[zh,CZ,q,lv,hz,ax] at hr2;simp (maxSteps:=9^9) [a8,aQ.m,aQ.b,aa,h1,h2,h3,c1,c2,c3',ci,c4,hr2,bu,q]
def JV(s:aW)(seen:List Int)(x:Nat×Nat×Nat):List (Nat×Ob):=[(1,⟨x.1,4,true,true,[ai s]⟩),(29,⟨x.2.1,1,true,false,ax seen⟩)]
def zg(s:aW)(i:Nat)(x:Nat×Nat×Nat):St:={t:=[(1,.c (.ptr 1 x.1 0 0)),(3,.c (.row 29 x.2.1 0 (seenAt s i).length)),(4,.c (I i))],o:=JV s (seenAt s i) x,n:=x.2.2}
def JW(s:aW)(x:Nat×Nat×Nat):St:={t:=[(1,.c (.ptr 1 x.1 0 0)),(3,.c (.row 29 x.2.1 0 (seenAt s s.boxes.length).length)),(4,.c (I s.boxes.length)),(34,.c (.bool false))],o:=JV s (seenAt s s.boxes.length) x,n:=x.2.2}
def BP(s:aW)(b:bz)(seen:List Int)(x:Nat×Nat×Nat×Nat):List (Nat×Ob):=[(1,⟨x.1,4,true,true,[ai s]⟩),(5,⟨x.2.2.1,7,true,true,[af b]⟩),(29,⟨x.2.1,1,true,false,ax seen⟩)]
def BO(s:aW)(b:bz)(seen:List Int)(i k:Nat)(x:Nat×Nat×Nat×Nat):St:={t:=[(1,.c (.ptr 1 x.1 0 0)),(3,.c (.row 29 x.2.1 0 (seen.length+k))),(4,.c (I i)),(5,.c (.ptr 5 x.2.2.1 0 0)),(6,.c (I k))],o:=BP s b (seen++(b_ b).take k) x,n:=x.2.2.2}
def HC(s:aW)(b:bz)(seen:List Int)(i:Nat)(x:Nat×Nat×Nat×Nat):St:={t:=[(1,.c (.ptr 1 x.1 0 0)),(3,.c (.row 29 x.2.1 0 (seen.length+b.ae.length))),(4,.c (I i)),(5,.c (.ptr 5 x.2.2.1 0 0)),(6,.c (I b.ae.length)),(87,.c (.bool false))],o:=BP s b (seen++b_ b) x,n:=x.2.2.2}
theorem aN.inner(hin:bl.k M)(s:aW)(b:bz)(seen:List Int)(i K:Nat)(hl:b.ae.length≤1048576)(hs:seen.length≤1048576):
  ∃g:Nat×Nat×Nat×Nat→(Nat×Nat×Nat×Nat)×Nat,∀x,fi (cy (run M) K aN.l1) (b.ae.length+1) (BO s b seen i 0 x)=some (lv 2 (.bool false) 2 (HC s b seen i) (eE (rK seen (b_ b)) b.ae.length) (g x)):=
 iE b.ae.length (rK seen (b_ b)) (BO s b seen i) 2 (.bool false) 2 (HC s b seen i)
  (fun k hk x c=>by
   obtain⟨v,w,z,x⟩:=x;have hk':k<(b_ b).length:=by rw[jF];exact hk
   rw[p5 hk'] at c;have hlen:(seen++(b_ b).take k).length=seen.length+k:=by rw[aC,jn,Nat.min_eq_left (by omega)]
   have h1:=bl.al hin (seen++(b_ b).take k) (b_ b)[k] (by rw[hlen];omega);rw[c] at h1;rw[o5] at h1;simp only[ints] at h1;have e5:=cz (i:=k) (by omega);have e6:seen.length+(k+1)≤4294967296:=by omega
   have e7:seen++(b_ b).take (k+1)=(seen++(b_ b).take k)++[b.ae[k].gid]:=by rw[List.take_succ_eq_append_getElem hk',o5,ct]
   have e8:ax ((seen++(b_ b).take k)++[b.ae[k].gid])=ax (seen++(b_ b).take k)++[[I b.ae[k].gid]]:=by simp[ax]
   have e9:(ax (seen++(b_ b).take k)).length=seen.length+k:=by simp only[ax,gD];exact hlen
   simp only[aH,BO,BP,e7,e8];generalize ax (seen++(b_ b).take k)=rr at*;simp (maxSteps:=9^9) [aN.l1,hk,h1,ah,e5,e6,e9,ab,Nat.add_assoc];exact⟨_,_,_,⟨rfl,rfl,rfl⟩,rfl,rfl,rfl⟩)
  (fun k hk x c=>by
   obtain⟨v,w,z,x⟩:=x;have hk':k<(b_ b).length:=by rw[jF];exact hk
   rw[p5 hk'] at c;have hlen:(seen++(b_ b).take k).length=seen.length+k:=by rw[aC,jn,Nat.min_eq_left (by omega)]
   have h1:=bl.al hin (seen++(b_ b).take k) (b_ b)[k] (by rw[hlen];omega);rw[c] at h1;rw[o5] at h1;simp only[ints] at h1;have e9:(ax (seen++(b_ b).take k)).length=seen.length+k:=by simp only[ax,gD];exact hlen
   simp only[BO,BP];generalize ax (seen++(b_ b).take k)=rr at*;simp (maxSteps:=9^9) [aN.l1,hk,h1,ah,e9,ab])
  (fun x=>by
   obtain⟨v,w,z,x⟩:=x;have e7:(b_ b).take b.ae.length=b_ b:=ab (by rw[jF];omega);simp only[aH,BO,HC,BP,e7];simp (maxSteps:=9^9) [aN.l1];exact⟨_,_,_,⟨rfl,rfl,rfl⟩,rfl,rfl,rfl⟩)
structure aN.ks (M:Nat→Option Body):Prop where
 box:bD.k M
 IS:bl.k M
 LK:cG.k M
 LU:b4.k M
theorem aN.j2(h:aN.ks M)(s:aW)(hs:iI s)(K:Nat)(hK:2000000≤K)(i:Nat)(hi:i<s.boxes.length)(x:Nat×Nat×Nat)(c:qa s i=false):
  ∃y,cy (run M) K aN.l0 (zg s i x)=some (.normal,zg s (i+1) y):=by
 have hb:=hs.i _ (ar hi);have h1:=bD.al h.box s.boxes[i] hb.ok.1 hb.ok.2.1 hb.ok.2.2.1 hb.ok.2.2.2;have h2:=cG.al h.LK s s.boxes[i].name hs.b;have h3:=bl.al h.IS s.gone s.boxes[i].gid (by have:=hs.g;omega);have h4:=b4.al h.LU s.boxes[i] s.time hb.m hb.f;have hsl:=rZ hs i;obtain⟨g,hr⟩:=aN.inner h.IS s s.boxes[i] (seenAt s i) i K hb.m hsl;have hr2:=fun x=>gP (hr x) (show s.boxes[i].ae.length+1≤K by have:=hb.m;omega)
 rw[nZ hi,ot hi] at c;simp only[fc,Bool.and_eq_false_iff,Bool.not_eq_false',decide_eq_false_iff_not,decide_eq_true_eq] at c;obtain⟨⟨⟨⟨⟨c1,c2⟩,c3⟩,c4⟩,c5⟩,c6⟩:=c;have e5:IntKind.i64.wrap ((i:Int)+1)=(i:Int)+1:=wrap_i64 (by have:=hs.b;omega) (by have:=hs.b;omega);rw[c1] at h1;rw[c3] at h2;rw[decide_eq_false c4] at h3;rw[c5] at h4;have q:eE (rK (seenAt s i) (b_ s.boxes[i])) s.boxes[i].ae.length=none:=by
  unfold uF at c6;rw[jF] at c6;simpa using c6
 rw[q] at hr2;obtain⟨v,w,x⟩:=x;simp only[af,ai] at h1 h2 h4;simp only[ints] at h3;have hz:ax (seenAt s i++b_ s.boxes[i])=ax (seenAt s i)++ax (b_ s.boxes[i]):=by simp[ax]
 simp[BO,HC,BP,lv] at hr2;simp only[zg,JV,px hi,aH];have hgl:=jF s.boxes[i];by_cases c7:0<i
 ·have e6:IntKind.i64.wrap ((i:Int)-1)=((i-1:Nat):Int):=by rw[wrap_i64 (by have:=hs.b;omega) (by have:=hs.b;omega)];omega
  have c2':¬s.boxes[i].gid≤s.boxes[i-1].gid:=by
   rcases c2 with c2|c2
   ·exact absurd c7 c2
   ·exact c2
  simp (maxSteps:=9^9) [aN.l0,aa,setAt,hi,h1,h2,h3,h4,c7,c2',e5,e6,hr2,hgl,af,(show i-1<s.boxes.length by omega)]
 ·simp (maxSteps:=9^9) [aN.l0,aa,setAt,hi,h1,h2,h3,h4,c7,e5,hr2,hgl,af]
theorem aN.bad(h:aN.ks M)(s:aW)(hs:iI s)(K:Nat)(hK:2000000≤K)(i:Nat)(hi:i<s.boxes.length)(x:Nat×Nat×Nat)(c:qa s i=true):
  ∃k,cy (run M) K aN.l0 (zg s i x)=some (.ret,{t:=[(2,.c (.bool false))],o:=[],n:=k}):=by
 have hb:=hs.i _ (ar hi);have h1:=bD.al h.box s.boxes[i] hb.ok.1 hb.ok.2.1 hb.ok.2.2.1 hb.ok.2.2.2;have h2:=cG.al h.LK s s.boxes[i].name hs.b;have h3:=bl.al h.IS s.gone s.boxes[i].gid (by have:=hs.g;omega);have h4:=b4.al h.LU s.boxes[i] s.time hb.m hb.f;have hsl:=rZ hs i;obtain⟨g,hr⟩:=aN.inner h.IS s s.boxes[i] (seenAt s i) i K hb.m hsl;have hr2:=fun x=>gP (hr x) (show s.boxes[i].ae.length+1≤K by have:=hb.m;omega)
 rw[nZ hi,ot hi] at c;obtain⟨v,w,x⟩:=x;simp only[af,ai] at h1 h2 h4;simp only[ints] at h3;simp only[zg,JV];cases c1:fQ s.boxes[i]
 ·rw[c1] at h1;simp (maxSteps:=9^9) [aN.l0,aa,setAt,hi,h1,af]
 rw[c1] at h1;have tail:∀(hp:¬0<i∨¬s.boxes[i].gid≤s.boxes[i-1].gid),∃k,cy (run M) K aN.l0 {t:=[(1,.c (.ptr 1 v 0 0)),(3,.c (.row 29 w 0 (seenAt s i).length)),(4,.c (I i))],o:=[(1,⟨v,4,true,true,[ai s]⟩),(29,⟨w,1,true,false,ax (seenAt s i)⟩)],n:=x}=some (.ret,{t:=[(2,.c (.bool false))],o:=[],n:=k}):=by
  intro hp;have hpp:(decide (0<i)&&decide (s.boxes[i].gid≤s.boxes[i-1].gid))=false:=by
   rcases hp with hp|hp<;>simp[hp]
  have key:(∀(Q:Prop),(0<i→¬s.boxes[i].gid≤s.boxes[i-1].gid→Q)→(¬0<i→Q)→Q):=by
   intro Q q1 q2;by_cases c7:0<i
   ·rcases hp with hp|hp
    ·exact absurd c7 hp
    ·exact q1 c7 hp
   ·exact q2 c7
  have e6:0<i→IntKind.i64.wrap ((i:Int)-1)=((i-1:Nat):Int):=fun c7=>by rw[wrap_i64 (by have:=hs.b;omega) (by have:=hs.b;omega)];omega
  have hi1:i-1<s.boxes.length:=by omega
  by_cases c3:dN (named s.boxes s.boxes[i].name)=(i:Int);rotate_left
  ·exact key _ (fun c7 c2=>by simp (maxSteps:=9^9) [aN.l0,aa,setAt,hi,h1,h2,c7,c2,c3,e6 c7,af,hi1]) (fun c7=>by simp (maxSteps:=9^9) [aN.l0,aa,setAt,hi,h1,h2,c7,c3,af])
  rw[c3] at h2;by_cases c4:s.boxes[i].gid∈s.gone
  ·rw[decide_eq_true c4] at h3;exact key _ (fun c7 c2=>by simp (maxSteps:=9^9) [aN.l0,aa,setAt,hi,h1,h2,h3,c7,c2,e6 c7,af,hi1]) (fun c7=>by simp (maxSteps:=9^9) [aN.l0,aa,setAt,hi,h1,h2,h3,c7,af])
  rw[decide_eq_false c4] at h3;cases c5:late s.boxes[i] s.time;rotate_left
  ·rw[c5] at h4;exact key _ (fun c7 c2=>by simp (maxSteps:=9^9) [aN.l0,aa,setAt,hi,h1,h2,h3,h4,c7,c2,e6 c7,af,hi1]) (fun c7=>by simp (maxSteps:=9^9) [aN.l0,aa,setAt,hi,h1,h2,h3,h4,c7,af])
  rw[c5] at h4;have c6:uF (seenAt s i) (b_ s.boxes[i])=true:=by
   rw[c1,hpp,c3,c5] at c;simpa [c4] using c
  obtain⟨k,hk⟩:∃k,eE (rK (seenAt s i) (b_ s.boxes[i])) s.boxes[i].ae.length=some k:=by
   unfold uF at c6;rw[jF] at c6;exact Option.isSome_iff_exists.1 c6
  rw[hk] at hr2;simp[BO,BP,lv] at hr2;have hgl:=jF s.boxes[i];exact key _ (fun c7 c2=>by simp (maxSteps:=9^9) [aN.l0,aa,setAt,hi,h1,h2,h3,h4,c7,c2,e6 c7,hr2,af,hi1]) (fun c7=>by simp (maxSteps:=9^9) [aN.l0,aa,setAt,hi,h1,h2,h3,h4,c7,hr2,af])
 by_cases c7:0<i
 ·by_cases c2:s.boxes[i].gid≤s.boxes[i-1].gid
  ·have e6:IntKind.i64.wrap ((i:Int)-1)=((i-1:Nat):Int):=by rw[wrap_i64 (by have:=hs.b;omega) (by have:=hs.b;omega)];omega
   simp (maxSteps:=9^9) [aN.l0,aa,setAt,hi,h1,c7,c2,e6,af,(show i-1<s.boxes.length by omega)]
  ·exact tail (.inr c2)
 ·exact tail (.inl c7)
theorem aN.al(h:aN.k M)(s:aW)(hs:iI s):run M 149 [.a (ai s)] []=some (.c (.bool (bu s)),[]):=by
 obtain⟨h0,k1,k2,k3,k4,k5,k6⟩:=h;have h1:=bY.kD k2 s.eD 1 2;have h2:=bY.kD k2 s.time 0 100000;have h3:=cD.al k4 s.gone 20 (by have:=hs.g;omega);refine ao (b:=aN.m) h0 ⟨4000000, ?_⟩;obtain⟨K,hK⟩:∃K,4000000=K:=⟨_,rfl⟩
 rw[hK];obtain⟨g,hr⟩:=iE (f:=cy (run M) K aN.l0) s.boxes.length (qa s) (zg s) 2 (.bool false) 0 (JW s)
  (fun i hi x c=>aN.j2 ⟨k1,k3,k5,k6⟩ s hs K (by omega) i hi x c)
  (fun i hi x c=>aN.bad ⟨k1,k3,k5,k6⟩ s hs K (by omega) i hi x c)
  (fun x=>by
   obtain⟨v,w,x⟩:=x;simp only[aH];simp (maxSteps:=9^9) [aN.l0,aa,zg,JW,JV])
 have hr2:=fun x=>gP (hr x) (show s.boxes.length+1≤K by have:=hs.b;omega)
 cases c1:kD 1 s.eD 2
 ·simp (maxSteps:=9^9) [a8,aN.m,aN.b,aa,h1,c1,bu]
 cases c2:kD 0 s.time 100000
 ·simp (maxSteps:=9^9) [a8,aN.m,aN.b,aa,h1,h2,c1,c2,bu]
 by_cases c3:5<s.boxes.length
 ·have c3':¬s.boxes.length≤5:=by omega
  have ci:(5:Int)<s.boxes.length:=by omega
  simp (maxSteps:=9^9) [a8,aN.m,aN.b,aa,h1,h2,c1,c2,c3',ci,bu]
 have c3':s.boxes.length≤5:=by omega
 have ci:¬(5:Int)<s.boxes.length:=by omega
 cases c4:l_ s.gone 20
 ·simp (maxSteps:=9^9) [a8,aN.m,aN.b,aa,h1,h2,h3,c1,c2,ci,c4,bu]
 have hz:seenAt s 0=[]:=by simp[seenAt]
 cases q:eE (qa s) s.boxes.length with
 |none=>
  simp[zg,JW,JV,q,lv,hz,ax] at hr2;simp (maxSteps:=9^9) [a8,aN.m,aN.b,aa,h1,h2,h3,c1,c2,c3',ci,c4,hr2,bu,q]
 |some k=>
  simp[zg,JV,q,lv,hz,ax] at hr2;simp (maxSteps:=9^9) [a8,aN.m,aN.b,aa,h1,h2,h3,c1,c2,c3',ci,c4,hr2,bu,q]
def pw(k:Nat):Nat:=128^k
def mM(l:List UInt8)(a:Nat):Nat→Nat→Nat→Option (Nat×Nat×Bool)
 |0,_,_=>none
 |d+1,k,n=>if h:a+k<l.length then
   if l[a+k].toNat<128 then some (if n+l[a+k].toNat%128*pw k≤1000000000∧iK (n+l[a+k].toNat%128*pw k)=(l.drop a).take (k+1) then(n+l[a+k].toNat%128*pw k,a+k+1,true) else(0,0,false))
   else mM l a d (k+1) (n+l[a+k].toNat%128*pw k)
  else none
def fS(l:List UInt8)(a:Int):Nat×Nat×Bool:=if 0≤a∧a≤l.length then(mM l a.toNat 5 0 0).getD (0,0,false) else(0,0,false)
theorem As(l:List UInt8)(a d k n:Nat)(h:¬a+k<l.length):mM l a d k n=none:=by
 cases d with
 |zero=>rfl
 |succ d=>rw[mM,dif_neg h]
theorem C1(l:List UInt8)(a:Nat):∀d k n r,mM l a d k n=some r→r.1≤1000000000∧r.2.1≤l.length∧(r.2.2=true→a+k<r.2.1)
 |0,k,n,r,h=>by simp[mM] at h
 |d+1,k,n,r,hr=>by
  rw[mM] at hr;by_cases h:a+k<l.length
  ·rw[dif_pos h] at hr;split at hr
   ·simp only[aK] at hr;subst hr;split
    ·rename_i hc;exact⟨hc.1,by simp only;omega,fun _=>by simp only;omega⟩
    ·simp
   ·have:=C1 l a d (k+1) _ r hr;exact⟨this.1,this.2.1,fun q=>by have:=this.2.2 q;omega⟩
  ·rw[dif_neg h] at hr;cases hr
theorem pa(l:List UInt8)(a:Int):(fS l a).1≤1000000000∧(fS l a).2.1≤l.length∧((fS l a).2.2=true→0≤a∧a<(fS l a).2.1):=by
 unfold fS;split
 ·rename_i h;cases hg:mM l a.toNat 5 0 0 with
  |none=>simp
  |some r=>
   have:=C1 l a.toNat 5 0 0 r hg;exact⟨this.1,this.2.1,fun q=>⟨h.1,by have:=this.2.2 q;simp only[jl];omega⟩⟩
 ·simp
def BN(l:List UInt8)(a:Nat)(s:Nat×Nat)(x:Nat):St:={t:=[(0,.c (S l)),(1,.c (I a)),(7,.c (I s.2)),(8,.c (I (pw s.1:Nat))),(9,.c (I ((a:Int)+s.1)))],o:=[],n:=x}
def mK(q:Option (Nat×Nat×Bool))(m:St):Out×St:=match q with
 |some r=>(.ret,{t:=[(4,.c (I r.1)),(5,.c (I r.2.1)),(6,.c (.bool r.2.2))],o:=[],n:=m.n})
 |none=>(.exit 0,m)
theorem Au(q:Option (Nat×Nat×Bool))(m:St):(mK q m).1≠.normal:=by
 cases q<;>simp[mK]
theorem vX{k:Nat}(h:k≤5):pw k≤34359738368:=by
 have:k=0∨k=1∨k=2∨k=3∨k=4∨k=5:=by omega
 rcases this with rfl|rfl|rfl|rfl|rfl|rfl<;>decide+kernel
theorem zt(k:Nat):pw (k+1)=pw k*128:=Nat.pow_succ 128 k
theorem CY{n k b:Nat}(h:n<pw k):n+b%128*pw k<pw (k+1):=by
 have h1:b%128≤127:=by omega
 have h2:b%128*pw k≤127*pw k:=cB _ h1;rw[zt];omega
theorem cv.al(h:cv.k M)(l:List UInt8)(hl:l.length≤4611686018427387904)(a:Int):
  run M 221 [.c (S l),.c (I a)] []=some (.lL [.c (I (fS l a).1),.c (I (fS l a).2.1),.c (.bool (fS l a).2.2)],[]):=by
 obtain⟨h0,k1,k2⟩:=h;have hw:=bY.al k1 a 0 l.length;refine ao (b:=cv.m) h0 ⟨7, ?_⟩;by_cases c:0≤a∧a≤l.length;rotate_left
 ·have hb:(decide (0≤a)&&decide (a≤(l.length:Int)))=false:=by
   rw[Bool.eq_false_iff];intro hh;simp only[ak,decide_eq_true_eq] at hh;omega
  rw[hb] at hw;simp[a8,cv.m,cv.b,aa,hw,fS,c]
 obtain⟨c1,c2⟩:=c;obtain⟨a,rfl⟩:=hH c1;have c3:a≤l.length:=by omega
 simp[c1,c3] at hw;obtain⟨g,hr⟩:=jP (f:=cy (run M) 7 cv.l0) (BN l a) (fun s=>s.1≤5∧s.2<pw s.1) (fun s=>5-s.1) (fun s=>mM l a (5-s.1) s.1 s.2) mK
  (by
   rintro ⟨k,n⟩ x ⟨h1,h2⟩;simp only at h1 h2;have hp:=vX h1;have e2:IntKind.i64.wrap ((a:Int)+5)=(a:Int)+5:=wrap_i64 (by omega) (by omega);have stop:(∃m,cy (run M) 7 cv.l0 (BN l a (k,n) x)=some (mK (mM l a (5-k) k n) m))→(∃s' y,cy (run M) 7 cv.l0 (BN l a (k,n) x)=some (.normal,BN l a s' y)∧(s'.1≤5∧s'.2<pw s'.1)∧5-s'.1<5-(k,n).1∧mM l a (5-s'.1) s'.1 s'.2=mM l a (5-(k,n).1) (k,n).1 (k,n).2)∨(∃z,cy (run M) 7 cv.l0 (BN l a (k,n) x)=some (mK (mM l a (5-(k,n).1) (k,n).1 (k,n).2) z)∧(mK (mM l a (5-(k,n).1) (k,n).1 (k,n).2) z).1≠.normal):=fun⟨m,hm⟩=> .inr ⟨m,hm,Au _ _⟩
   by_cases hlt:a+k<l.length;rotate_left
   ·have d1:¬(a:Int)+k<l.length:=by omega
    refine stop ?_;simp only[As l a _ k n hlt,mK];simp[BN,cv.l0,d1]
   have d1:(a:Int)+k<l.length:=by omega
   by_cases h5:k<5;rotate_left
   ·have:k=5:=by omega
    subst this;refine stop ?_;simp only[Nat.sub_self,mM,mK];simp at d1;simp[BN,cv.l0,d1,e2]
   have d2:(a:Int)+k<a+5:=by omega
   have hs:=CY (b:=l[a+k].toNat) h2;have hp':=vX (k:=k+1) (by omega);have hd:5-k=(5-(k+1))+1:=by omega
   obtain⟨b,hb⟩:∃b,l[a+k]=b:=⟨_,rfl⟩
   rw[hb] at hs;have hbl:=b.toNat_lt;have e3:IntKind.i64.wrap (b.toNat:Int)=b.toNat:=wrap_i64 (by omega) (by omega);have q4:((b.toNat:Int)%128*(pw k:Nat))=((b.toNat%128*pw k:Nat):Int):=by push_cast;rfl
   have e4:IntKind.i64.wrap ((b.toNat:Int)%128*(pw k:Nat))=(b.toNat:Int)%128*(pw k:Nat):=by rw[q4];exact wrap_i64 (by omega) (by omega)
   have e5:IntKind.i64.wrap ((n:Int)+(b.toNat:Int)%128*(pw k:Nat))=(n:Int)+(b.toNat:Int)%128*(pw k:Nat):=by rw[q4];exact wrap_i64 (by omega) (by omega)
   have e6:IntKind.i64.wrap (((pw k:Nat):Int)*128)=((pw (k+1):Nat):Int):=by
    rw[show ((pw k:Nat):Int)*128=((pw (k+1):Nat):Int) by rw[zt];push_cast;rfl];exact wrap_i64 (by omega) (by omega)
   have e7:IntKind.i64.wrap ((a:Int)+k+1)=(a:Int)+(k+1):=by rw[wrap_i64 (by omega) (by omega)];omega
   have e8:((a:Int)+k).toNat=a+k:=by omega
   have e9:(b.toNat:Int).tmod 128=(b.toNat:Int)%128:=Int.tmod_eq_emod_of_nonneg (by omega);have h1':=bG.al k2 (n+b.toNat%128*pw k) (by omega);simp only[Int.natCast_add,Int.natCast_mul,Int.natCast_emod,aM] at h1';have f0:(0:Int)≤(a:Int)+k:=by omega
   by_cases hb128:b.toNat<128;rotate_left
   ·left;have b1:¬(b.toNat:Int)<128:=by omega
    obtain⟨y,hy⟩:∃y,cy (run M) 7 cv.l0 (BN l a (k,n) x)=some (.normal,BN l a (k+1,n+b.toNat%128*pw k) y):=by
     simp[BN,cv.l0,d1,d2,e2,e3,e4,e5,e6,e7,e8,e9,f0,hlt,jS,hb,b1]
    refine⟨(k+1,n+b.toNat%128*pw k),y,hy,⟨h5,hs⟩,by simp only;omega, ?_⟩;simp only[hd];rw[mM,dif_pos hlt,hb,if_neg hb128]
   refine stop ?_;have b1:(b.toNat:Int)<128:=by omega
   rw[hd,mM,dif_pos hlt,hb,if_pos hb128];have f1:(0:Int)≤(a:Int)+(k+1):=by omega
   have f2:((a:Int)+(k+1)).toNat=a+(k+1):=by omega
   by_cases hN:n+b.toNat%128*pw k≤1000000000;rotate_left
   ·rw[if_neg (fun q=>hN q.1)];have hN':1000000000<(n:Int)+(b.toNat:Int)%128*(pw k:Nat):=by rw[q4];omega
    simp[mK,BN,cv.l0,d1,d2,e2,e3,e4,e5,e6,e8,e9,f0,hlt,jS,hb,b1,hN'];exact⟨⟨[],[],_⟩,rfl⟩
   have hN':¬1000000000<(n:Int)+(b.toNat:Int)%128*(pw k:Nat):=by rw[q4];omega
   obtain⟨w,hw'⟩:∃w,(l.drop a).take (k+1)=w:=⟨_,rfl⟩
   have w1:(l.take (a+(k+1))).drop a=w:=by rw[←hw',List.drop_take];congr 1;omega
   have w2:(l.drop a).take (a+(k+1)-a)=w:=by rw[←hw'];congr 1;omega
   have g1:a≤a+(k+1)∧a+(k+1)≤l.length:=by omega
   rw[hw'];by_cases hv:iK (n+b.toNat%128*pw k)=w
   ·rw[if_pos ⟨hN,hv⟩];simp[mK,BN,cv.l0,d1,d2,e2,e3,e4,e5,e6,e7,e8,e9,f0,hlt,jS,hb,b1,hN',h1',f1,f2,w1,g1,hv];exact⟨by omega,⟨[],[],_⟩,rfl⟩
   ·rw[if_neg (fun q=>hv q.2)];simp[mK,BN,cv.l0,d1,d2,e2,e3,e4,e5,e6,e7,e8,e9,f0,hlt,jS,hb,b1,hN',h1',f1,f2,w1,g1,hv];exact⟨⟨[],[],_⟩,rfl⟩)
  7 (0,0) ⟨by simp,by simp[pw]⟩ (by simp)
 simp only[Nat.sub_zero] at hr;have hp0:pw 0=1:=rfl;simp only[fS];rw[if_pos ⟨c1,c2⟩];simp only[eS];cases hg:mM l a 5 0 0 with
 |none=>
  simp[BN,hg,mK,hp0] at hr;simp[a8,cv.m,cv.b,aa,hw,hr]
 |some r=>
  simp[BN,hg,mK,hp0] at hr;simp[a8,cv.m,cv.b,aa,hw,hr]
def Ce(l:List UInt8)(a:Nat)(s:Nat×Nat)(x:Nat):St:={t:=[(0,.c (S l)),(1,.c (I a)),(7,.c (I s.2)),(8,.c (I s.1))],o:=[],n:=x}
theorem cw.al(h:cw.k M)(l:List UInt8)(hl:l.length≤4611686018427387904)(a:Int):
  run M 231 [.c (S l),.c (I a)] []=some (.lL [.c (I (fS l a).1),.c (I (fS l a).2.1),.c (.bool (fS l a).2.2)],[]):=by
 obtain⟨h0,k1,k2⟩:=h;have hw:=cj.al k1 a 0 l.length;refine ao (b:=cw.m) h0 ⟨7, ?_⟩;by_cases c:0≤a∧a≤l.length;rotate_left
 ·have hb:(decide (0≤a)&&decide (a≤(l.length:Int)))=false:=by
   rw[Bool.eq_false_iff];intro hh;simp only[ak,decide_eq_true_eq] at hh;omega
  rw[hb] at hw;simp[a8,cw.m,cw.b,aa,hw,fS,c]
 obtain⟨c1,c2⟩:=c;obtain⟨a,rfl⟩:=hH c1;have c3:a≤l.length:=by omega
 simp[c1,c3] at hw;obtain⟨g,hr⟩:=jP (f:=cy (run M) 7 cw.l0) (Ce l a) (fun s=>s.1≤5∧s.2<pw s.1) (fun s=>5-s.1) (fun s=>mM l a (5-s.1) s.1 s.2) mK
  (by
   rintro ⟨k,n⟩ x ⟨h1,h2⟩;simp only at h1 h2;have hp:=vX h1;have stop:(∃m,cy (run M) 7 cw.l0 (Ce l a (k,n) x)=some (mK (mM l a (5-k) k n) m))→(∃s' y,cy (run M) 7 cw.l0 (Ce l a (k,n) x)=some (.normal,Ce l a s' y)∧(s'.1≤5∧s'.2<pw s'.1)∧5-s'.1<5-(k,n).1∧mM l a (5-s'.1) s'.1 s'.2=mM l a (5-(k,n).1) (k,n).1 (k,n).2)∨(∃z,cy (run M) 7 cw.l0 (Ce l a (k,n) x)=some (mK (mM l a (5-(k,n).1) (k,n).1 (k,n).2) z)∧(mK (mM l a (5-(k,n).1) (k,n).1 (k,n).2) z).1≠.normal):=fun⟨m,hm⟩=> .inr ⟨m,hm,Au _ _⟩
   by_cases h5:k<5;rotate_left
   ·have:k=5:=by omega
    subst this;refine stop ?_;simp only[Nat.sub_self,mM,mK];simp[Ce,cw.l0]
   have d2:(k:Int)<5:=by omega
   have e0:IntKind.i64.wrap ((a:Int)+k)=(a:Int)+k:=wrap_i64 (by omega) (by omega);by_cases hlt:a+k<l.length;rotate_left
   ·have d1:¬(a:Int)+k<l.length:=by omega
    refine stop ?_;simp only[As l a _ k n hlt,mK];simp[Ce,cw.l0,d1,d2,e0]
   have d1:(a:Int)+k<l.length:=by omega
   have hs:=CY (b:=l[a+k].toNat) h2;have hp':=vX (k:=k+1) (by omega);have hd:5-k=(5-(k+1))+1:=by omega
   obtain⟨b,hb⟩:∃b,l[a+k]=b:=⟨_,rfl⟩
   rw[hb] at hs;have hbl:=b.toNat_lt;have e3:ud .u8 (b.toNat:Int) 127=(b.toNat:Int)%128:=by
    have:=KN b.toNat 127 (by omega) (by omega);rw[DA] at this;rw[show (127:Int)=((127:Nat):Int) from rfl,this];omega
   have e3':IntKind.i64.wrap ((b.toNat:Int)%128)=(b.toNat:Int)%128:=wrap_i64 (by omega) (by omega);have e4:IntKind.i64.wrap (7*(k:Int))=7*(k:Int):=wrap_i64 (by omega) (by omega);have e4':(7*(k:Int)).toNat=7*k:=by omega
   have e4'':min (7*k) 64=7*k:=by omega
   have q4:((b.toNat:Int)%128*(pw k:Nat))=((b.toNat%128*pw k:Nat):Int):=by push_cast;rfl
   have q5:(2:Int)^(7*k)=(pw k:Nat):=by
    unfold pw;rw[Int.pow_mul];push_cast;rfl
   have e5:IntKind.i64.wrap ((b.toNat:Int)%128*(pw k:Nat))=(b.toNat:Int)%128*(pw k:Nat):=by rw[q4];exact wrap_i64 (by omega) (by omega)
   have e6:EP .i64 (n:Int) ((b.toNat:Int)%128*(pw k:Nat))=(n:Int)+(b.toNat:Int)%128*(pw k:Nat):=by
    rw[q4,wM n (b.toNat%128*pw k) (by omega) (by omega)];have:=HJ n (b.toNat%128) k h2;unfold pw at this ⊢;rw[this];push_cast;rfl
   have e7:=cz (i:=k) (by omega);have e7':IntKind.i64.wrap ((a:Int)+k+1)=(a:Int)+(k+1):=by rw[wrap_i64 (by omega) (by omega)];omega
   have e8:((a:Int)+k).toNat=a+k:=by omega
   have h1':=cT.al k2 (n+b.toNat%128*pw k) (by omega);simp only[Int.natCast_add,Int.natCast_mul,Int.natCast_emod,aM] at h1';have f0:(0:Int)≤(a:Int)+k:=by omega
   have f3:(0:Int)≤7*(k:Int):=by omega
   have f4:¬7*(k:Int)<0:=by omega
   by_cases hb128:b.toNat<128;rotate_left
   ·left;have b1:127<(b.toNat:Int):=by omega
    obtain⟨y,hy⟩:∃y,cy (run M) 7 cw.l0 (Ce l a (k,n) x)=some (.normal,Ce l a (k+1,n+b.toNat%128*pw k) y):=by
     simp[Ce,cw.l0,d1,d2,e0,e3,e3',e4,e4',e4'',e5,e6,e7,e8,q5,f0,f4,hlt,jS,hb,b1,IntKind.bits]
    refine⟨(k+1,n+b.toNat%128*pw k),y,hy,⟨h5,hs⟩,by simp only;omega, ?_⟩;simp only[hd];rw[mM,dif_pos hlt,hb,if_neg hb128]
   refine stop ?_;have b1:¬127<(b.toNat:Int):=by omega
   rw[hd,mM,dif_pos hlt,hb,if_pos hb128];have f1:(0:Int)≤(a:Int)+(k+1):=by omega
   have f2:((a:Int)+(k+1)).toNat=a+(k+1):=by omega
   by_cases hN:n+b.toNat%128*pw k≤1000000000;rotate_left
   ·rw[if_neg (fun q=>hN q.1)];simp only[hN,if_false,decide_false] at h1';simp[mK,Ce,cw.l0,d1,d2,e0,e3,e3',e4,e4',e4'',e5,e6,e8,q5,f0,f4,hlt,jS,hb,b1,h1',IntKind.bits];exact⟨⟨[],[],_⟩,rfl⟩
   simp only[hN,if_true,decide_true] at h1';obtain⟨w,hw'⟩:∃w,(l.drop a).take (k+1)=w:=⟨_,rfl⟩
   have w1:(l.take (a+(k+1))).drop a=w:=by rw[←hw',List.drop_take];congr 1;omega
   have w2:(l.drop a).take (a+(k+1)-a)=w:=by rw[←hw'];congr 1;omega
   have g1:a≤a+(k+1)∧a+(k+1)≤l.length:=by omega
   rw[hw'];by_cases hv:iK (n+b.toNat%128*pw k)=w
   ·rw[if_pos ⟨hN,hv⟩];simp[mK,Ce,cw.l0,d1,d2,e0,e3,e3',e4,e4',e4'',e5,e6,e7',e8,q5,f0,f4,hlt,jS,hb,b1,h1',f1,f2,w1,g1,hv,IntKind.bits];exact⟨by omega,⟨[],[],_⟩,rfl⟩
   ·rw[if_neg (fun q=>hv q.2)];simp[mK,Ce,cw.l0,d1,d2,e0,e3,e3',e4,e4',e4'',e5,e6,e7',e8,q5,f0,f4,hlt,jS,hb,b1,h1',f1,f2,w1,g1,hv,IntKind.bits];exact⟨⟨[],[],_⟩,rfl⟩)
  7 (0,0) ⟨by simp,by simp[pw]⟩ (by simp)
 simp only[Nat.sub_zero] at hr;simp only[fS];rw[if_pos ⟨c1,c2⟩];simp only[eS];cases hg:mM l a 5 0 0 with
 |none=>
  simp[Ce,hg,mK] at hr;simp[a8,cw.m,cw.b,aa,hw,hr]
 |some r=>
  simp[Ce,hg,mK] at hr;simp[a8,cw.m,cw.b,aa,hw,hr]
def gT(l:List UInt8)(a:Int):List UInt8×Nat×Bool:=
 if(fS l a).2.2=true∧(fS l a).1≤20000∧(fS l a).1+(fS l a).2.1≤l.length then((l.drop (fS l a).2.1).take (fS l a).1,(fS l a).2.1+(fS l a).1,true) else([],0,false)
theorem dU.al(h:dU.k M)(l:List UInt8)(hl:l.length≤4611686018427387904)(a:Int):
  run M 206 [.c (S l),.c (I a)] []=some (.lL [.c (S (gT l a).1),.c (I (gT l a).2.1),.c (.bool (gT l a).2.2)],[]):=by
 have h1:=cv.al h.2 l hl a;obtain⟨q1,q2,_⟩:=pa l a;refine ao (b:=dU.m) h.1 ⟨0, ?_⟩;unfold gT;generalize (fS l a).1=n at*;generalize (fS l a).2.1=f at*;generalize (fS l a).2.2=ok at*;cases ok with
 |false=>simp[a8,dU.m,dU.b,aa,h1]
 |true=>
  by_cases c1:n≤20000;rotate_left
  ·have c1':20000<(n:Int):=by omega
   simp[a8,dU.m,dU.b,aa,h1,c1,c1']
  have c1':¬20000<(n:Int):=by omega
  have e1:IntKind.i64.wrap ((l.length:Int)-f)=(l.length:Int)-f:=wrap_i64 (by omega) (by omega);by_cases c2:n+f≤l.length;rotate_left
  ·have c2':(l.length:Int)-f<n:=by omega
   simp[a8,dU.m,dU.b,aa,h1,c1,c1',c2,c2',e1]
  have c2':¬(l.length:Int)-f<n:=by omega
  have e2:IntKind.i64.wrap ((f:Int)+n)=(f:Int)+n:=wrap_i64 (by omega) (by omega);have e3:((f:Int)+n).toNat=f+n:=by omega
  have e4:(0:Int)≤(f:Int)+n:=by omega
  have e5:f≤f+n∧f+n≤l.length:=by omega
  obtain⟨w,hw⟩:∃w,(l.drop f).take n=w:=⟨_,rfl⟩
  have w1:(l.take (f+n)).drop f=w:=by rw[←hw,List.drop_take];congr 1;omega
  have w2:(l.drop f).take (f+n-f)=w:=by rw[←hw];congr 1;omega
  simp[a8,dU.m,dU.b,aa,h1,c1,c1',c2,c2',e1,e2,e3,e4,e5,hw,w1]
theorem ee.al(h:ee.k M)(l:List UInt8)(hl:l.length≤4611686018427387904)(a:Int):
  run M 207 [.c (S l),.c (I a)] []=some (.lL [.c (S (gT l a).1),.c (I (gT l a).2.1),.c (.bool (gT l a).2.2)],[]):=by
 have h1:=cw.al h.2 l hl a;obtain⟨q1,q2,_⟩:=pa l a;refine ao (b:=ee.m) h.1 ⟨0, ?_⟩;unfold gT;generalize (fS l a).1=n at*;generalize (fS l a).2.1=f at*;generalize (fS l a).2.2=ok at*;cases ok with
 |false=>simp[a8,ee.m,ee.b,aa,h1]
 |true=>
  by_cases c1:n≤20000;rotate_left
  ·have c1':20000<(n:Int):=by omega
   simp[a8,ee.m,ee.b,aa,h1,c1,c1']
  have c1':¬20000<(n:Int):=by omega
  have e1:IntKind.i64.wrap ((l.length:Int)-f)=(l.length:Int)-f:=wrap_i64 (by omega) (by omega);by_cases c2:n+f≤l.length;rotate_left
  ·have c2':(l.length:Int)-f<n:=by omega
   simp[a8,ee.m,ee.b,aa,h1,c1,c1',c2,c2',e1]
  have c2':¬(l.length:Int)-f<n:=by omega
  have e2:IntKind.i64.wrap ((f:Int)+n)=(f:Int)+n:=wrap_i64 (by omega) (by omega);have e3:((f:Int)+n).toNat=f+n:=by omega
  have e4:(0:Int)≤(f:Int)+n:=by omega
  have e5:f≤f+n∧f+n≤l.length:=by omega
  obtain⟨w,hw⟩:∃w,(l.drop f).take n=w:=⟨_,rfl⟩
  have w1:(l.take (f+n)).drop f=w:=by rw[←hw,List.drop_take];congr 1;omega
  have w2:(l.drop f).take (f+n-f)=w:=by rw[←hw];congr 1;omega
  simp[a8,ee.m,ee.b,aa,h1,c1,c1',c2,c2',e1,e2,e3,e4,e5,hw,w1]
theorem i_{a n b:Int}:kD a n b=true↔a≤n∧n≤b:=by simp[kD]
def dE(n:Int):List UInt8:=iK n.toNat
theorem EZ{n:Int}(h:n≤9223372036854775807):(dE n).length≤10:=kL (by omega)
theorem bG.int(h:bG.k M)(n:Int)(h0:0≤n)(h1:n≤9223372036854775807):run M 99 [.c (I n)] []=some (.c (S (dE n)),[]):=by
 have:=bG.al h n.toNat (by omega);rw[show ((n.toNat:Nat):Int)=n by omega] at this;exact this
theorem cT.int(h:cT.k M)(n:Int)(h0:0≤n)(h1:n≤1000000000):run M 230 [.c (I n)] []=some (.lL [.c (S (dE n)),.c (.bool true)],[]):=by
 have:=cT.al h n.toNat (by omega);rw[show ((n.toNat:Nat):Int)=n by omega,if_pos (by omega),decide_eq_true (by omega)] at this;exact this
def isVar(n:Int):Prop:=0≤n∧n≤1000000000
theorem da{n:Int}(h:isVar n):(dE n).length≤10:=EZ (by have:=h.2;omega)
def Mo(l:List Int)(i:Nat)(s:List UInt8)(x:Nat):St:={t:=[(3,.c (S s)),(8,.c (ints l)),(9,.c (I l.length)),(10,.c (I i))],o:=[],n:=x}
def MY(l:List Int)(s:List UInt8)(x:Nat):St:={t:=[(3,.c (S s)),(8,.c (ints l)),(9,.c (I l.length)),(10,.c (I l.length)),(11,.c (.bool false))],o:=[],n:=x}
theorem ji.al(h:ji.k M)(l:List Int)(hl:l.length≤1048576)(hv:∀n∈l,isVar n):run M 151 [.c (ints l)] []=some (.c (S (texts dE l)),[]):=by
 refine ao (b:=ji.m) h.1 ⟨l.length+1, ?_⟩;obtain⟨g,hr⟩:=oW (f:=cy (run M) (l.length+1) ji.l0) l dE 10 0 (fun n hn=>da (hv n hn)) (Mo l) 0 (MY l)
  (fun i hi s x hs=>by
   have e5:=cz (i:=i) (by omega);have h1:=cT.int h.2 l[i] (hv _ (ar hi)).1 (hv _ (ar hi)).2;have h2:=da (hv _ (ar hi));simp (maxSteps:=9^9) (disch:=(first|omega|(simp;done)|(simp;omega))) [ji.l0,fT,Mo,hi,h1,e5])
  (fun s x=>by simp (maxSteps:=9^9) [ji.l0,Mo,MY]) [] (by simp)
 simp[Mo,MY] at hr;simp (maxSteps:=9^9) [a8,ji.m,ji.b,aa,hr]
def vO(r:mB):List UInt8:=texts dE [r.val,r.time,r.eD]
def oa(m:bp):List UInt8:=texts dE [m.gid,m.uid]++texts vO m.flags++kR m.text
theorem wJ{r:mB}(h:nQ r=true):isVar r.val∧isVar r.time∧isVar r.eD:=by
 simp only[nQ,kz,ak,i_] at h;unfold isVar;omega
theorem oS{l:List mB}(h:jZ l=true):l.length=3∧∀r∈l,nQ r=true:=by
 simp only[jZ,ak,decide_eq_true_eq,b9,iN] at h;refine⟨h.2,fun r hr=> ?_⟩;obtain⟨i,hi,e⟩:=bF hr;have:=h.1 i hi;rw[mY hi,e] at this;simp at this;exact this.1
theorem nI{m:bp}(h:iY m=true):isVar m.gid∧isVar m.uid∧m.flags.length=3∧(∀r∈m.flags,nQ r=true)∧m.text.length≤60:=by
 simp only[iY,ak,i_,decide_eq_true_eq] at h;have hf:=oS h.1.2;exact⟨⟨by omega,by omega⟩,⟨by omega,by omega⟩,hf.1,hf.2,h.2⟩
theorem wI{r:mB}(h:nQ r=true):(vO r).length≤30:=by
 have h1:=wJ h;have:=da h1.1;have:=da h1.2.1;have:=da h1.2.2;simp[vO,texts];omega
theorem sa{m:bp}(h:iY m=true):(oa m).length≤1000:=by
 obtain⟨h1,h2,h3,h4,h5⟩:=nI h;have:=da h1;have:=da h2;have h6:=kW vO m.flags 30 fun r hr=>wI (h4 r hr)
 have h7:=kL (n:=m.text.length) (by omega);rw[h3] at h6;simp only[oa,kR,aC];have:(texts dE [m.gid,m.uid]).length≤20:=by simp[texts];omega
 omega
def MF(m:bp)(i:Nat)(s:List UInt8)(x:Nat×Nat):St:={t:=[(1,.c (.ptr 1 x.1 0 0)),(4,.c (S s)),(5,.c (I i))],o:=[(1,⟨x.1,4,true,true,[ah m]⟩)],n:=x.2}
def Nf(m:bp)(s:List UInt8)(x:Nat×Nat):St:={t:=[(1,.c (.ptr 1 x.1 0 0)),(4,.c (S s)),(5,.c (I m.flags.length)),(20,.c (.bool false))],o:=[(1,⟨x.1,4,true,true,[ah m]⟩)],n:=x.2}
theorem eP.al(h:eP.k M)(m:bp)(hl:m.flags.length≤1048576):run M 122 [.a (ah m)] []=some (.lL [.c (S (if iY m=true then oa m else [])),.c (.bool (iY m))],[]):=by
 obtain⟨h0,kv,ko⟩:=h;have h1:=dX.al ko m hl;refine ao (b:=eP.m) h0 ⟨m.flags.length+1, ?_⟩;simp only[ah] at h1;cases c:iY m
 ·rw[c] at h1;simp (maxSteps:=9^9) [a8,eP.m,eP.b,aa,h1]
 rw[c] at h1;obtain⟨v1,v2,v3,v4,v5⟩:=nI c;have h2:=bG.int kv m.gid v1.1 (by have:=v1.2;omega);have h2':=bG.int kv m.uid v2.1 (by have:=v2.2;omega);have h3:=bG.al kv m.text.length (by omega);have l0:=da v1;have l0':=da v2;obtain⟨g,hr⟩:=oW (f:=cy (run M) (m.flags.length+1) eP.l0) m.flags vO 30 20 (fun r hr=>wI (v4 r hr)) (MF m) 0 (Nf m)
  (fun i hi s x hs=>by
   obtain⟨v,x⟩:=x;have e5:=cz (i:=i) (by omega);have hx:=wJ (v4 _ (ar hi));have h4:=bG.int kv m.flags[i].val hx.1.1 (by have:=hx.1.2;omega);have h5:=bG.int kv m.flags[i].time hx.2.1.1 (by have:=hx.2.1.2;omega);have h6:=bG.int kv m.flags[i].eD hx.2.2.1 (by have:=hx.2.2.2;omega);have l1:=da hx.1;have l2:=da hx.2.1;have l3:=da hx.2.2;simp only[aH];simp (maxSteps:=9^9) (disch:=(first|omega|(simp;done)|(simp;omega))) [eP.l0,fT,MF,hi,h4,h5,h6,e5,aF,vO,texts])
  (fun s x=>by
   obtain⟨v,x⟩:=x;simp only[aH];simp (maxSteps:=9^9) [eP.l0,MF,Nf]) (dE m.gid++dE m.uid) (by simp;omega)
 have l2:=kW vO m.flags 30 fun r hr=>wI (v4 r hr)
 have l3:=kL (n:=m.text.length) (by omega);have hp:texts dE [m.gid,m.uid]=dE m.gid++dE m.uid:=by simp[texts]
 have hm:oa m=dE m.gid++(dE m.uid++(texts vO m.flags++(iK m.text.length++m.text))):=by simp[oa,hp,kR]
 simp[MF,Nf] at hr;rw[hm];simp (maxSteps:=9^9) (disch:=(first|omega|(simp;done)|(simp;omega))) [a8,eP.m,eP.b,aa,ab,fT,hr,h1,h2,h2',h3]
theorem zf{t w:Int}(h:kz t w=true):isVar t∧isVar w:=by
 simp only[kz,ak,i_] at h;unfold isVar;omega
theorem nM{l:List Int}{most:Int}(h:l_ l most=true):(l.length:Int)≤most∧∀n∈l,1≤n∧n≤9999:=by
 simp only[l_,ak,decide_eq_true_eq,b9,iN] at h;refine⟨h.2,fun r hr=> ?_⟩;obtain⟨i,hi,e⟩:=bF hr;have:=h.1 i hi;rw[oq hi,e] at this;simp at this;exact i_.1 this.1
theorem mi{l:List UInt8}(h:nw l=true):1≤l.length∧l.length≤12:=by
 simp only[nw,ak,i_] at h;omega
theorem jT{b:bz}(h:fQ b=true):isVar b.gid∧b.name.length≤12∧isVar b.time∧isVar b.eD∧isVar b.next∧b.ae.length≤10∧b.gone.length≤40∧(∀n∈b.gone,isVar n)∧∀m∈b.ae,iY m=true:=by
 simp only[fQ,ak,decide_eq_true_eq,b9,iN,i_] at h;obtain⟨⟨⟨⟨⟨⟨h1,h2⟩,h3⟩,h4⟩,h5⟩,h6⟩,h7⟩:=h;have hn:=mi h2;have hs:=zf h3;have hg:=nM h6;refine⟨⟨by omega,by omega⟩,hn.2,hs.1,hs.2,⟨by omega,by omega⟩,h5,by omega,fun n hn=>⟨by have:=hg.2 n hn;omega,by have:=hg.2 n hn;omega⟩,fun m hm=> ?_⟩;obtain⟨i,hi,e⟩:=bF hm;have:=h7 i hi;rw[nF hi,e] at this;simp at this;exact this.1.1.1.1
def xO(b:bz):List UInt8:=dE b.gid++(iK b.name.length++(b.name++(dE b.time++(dE b.eD++(dE b.next++iK b.ae.length)))))
def sB(b:bz):List UInt8:=xO b++(texts oa b.ae++(iK b.gone.length++texts dE b.gone))
theorem A7{b:bz}(h:fQ b=true):(xO b).length≤200:=by
 obtain⟨h1,h2,h3,h4,h5,h6,_⟩:=jT h;have:=da h1;have:=da h3;have:=da h4;have:=da h5;have:=kL (n:=b.name.length) (by omega);have:=kL (n:=b.ae.length) (by omega);simp[xO];omega
def MP(b:bz)(i:Nat)(s:List UInt8)(x:Nat×Nat):St:={t:=[(1,.c (.ptr 1 x.1 0 0)),(4,.c (S s)),(5,.c (I i))],o:=[(1,⟨x.1,7,true,true,[af b]⟩)],n:=x.2}
def Nx(b:bz)(s:List UInt8)(x:Nat×Nat):St:={t:=[(1,.c (.ptr 1 x.1 0 0)),(4,.c (S s)),(5,.c (I b.ae.length)),(46,.c (.bool false))],o:=[(1,⟨x.1,7,true,true,[af b]⟩)],n:=x.2}
def MQ(b:bz)(i:Nat)(s:List UInt8)(x:Nat×Nat):St:={t:=[(1,.c (.ptr 1 x.1 0 0)),(4,.c (S s)),(8,.c (I i))],o:=[(1,⟨x.1,7,true,true,[af b]⟩)],n:=x.2}
def NA(b:bz)(s:List UInt8)(x:Nat×Nat):St:={t:=[(1,.c (.ptr 1 x.1 0 0)),(4,.c (S s)),(8,.c (I b.gone.length)),(71,.c (.bool false))],o:=[(1,⟨x.1,7,true,true,[af b]⟩)],n:=x.2}
theorem dp.al(h:dp.k M)(b:bz)(hml:b.ae.length≤1048576)(hgl:b.gone.length≤4611686018427387904)(hnl:b.name.length≤4611686018427387904)(hw:∀m∈b.ae,m.flags.length≤1048576):
  run M 34 [.a (af b)] []=some (.lL [.c (S (if fQ b=true then sB b else [])),.c (.bool (fQ b))],[]):=by
 obtain⟨h0,ko,kv,km⟩:=h;have h1:=bD.al ko b hml hgl hnl hw;refine ao (b:=dp.m) h0 ⟨b.ae.length+b.gone.length+1, ?_⟩;simp only[af] at h1;cases c:fQ b
 ·rw[c] at h1;simp (maxSteps:=9^9) [a8,dp.m,dp.b,aa,h1]
 rw[c] at h1;obtain⟨v1,v2,v3,v4,v5,v6,v7,v8,v9⟩:=jT c;have g1:=bG.int kv b.gid v1.1 (by have:=v1.2;omega);have g2:=bG.al kv b.name.length (by omega);have g3:=bG.int kv b.time v3.1 (by have:=v3.2;omega);have g4:=bG.int kv b.eD v4.1 (by have:=v4.2;omega);have g5:=bG.int kv b.next v5.1 (by have:=v5.2;omega);have g6:=bG.al kv b.ae.length (by omega);have g7:=bG.al kv b.gone.length (by omega);have l1:=da v1;have l3:=da v3;have l4:=da v4;have l5:=da v5;have l6:=kL (n:=b.name.length) (by omega);have l7:=kL (n:=b.ae.length) (by omega);have l8:=kL (n:=b.gone.length) (by omega);have l9:=kW dE b.gone 10 fun n hn=>da (v8 n hn)
 have l10:=kW oa b.ae 1000 fun m hm=>sa (v9 m hm)
 have hp:=A7 c;obtain⟨g,hr⟩:=oW (f:=cy (run M) (b.ae.length+b.gone.length+1) dp.l0) b.ae oa 1000 200 (fun m hm=>sa (v9 m hm)) (MP b) 0 (Nx b)
  (fun i hi s x hs=>by
   obtain⟨v,x⟩:=x;have e5:=cz (i:=i) (by omega);have hx:=v9 _ (ar hi);have h6:=eP.al km b.ae[i] (by have:=(nI hx).2.2.1;omega);rw[if_pos hx,hx] at h6;have h7:=sa hx;simp only[ah] at h6;simp only[aH];have e6:=fT s (oa b.ae[i]) (by omega);simp (maxSteps:=9^9) [dp.l0,MP,hi,h6,e5,e6,ah])
  (fun s x=>by
   obtain⟨v,x⟩:=x;simp only[aH];simp (maxSteps:=9^9) [dp.l0,MP,Nx]) (xO b) hp
 obtain⟨g',hr'⟩:=oW (f:=cy (run M) (b.ae.length+b.gone.length+1) dp.l1) b.gone dE 10 11000 (fun n hn=>da (v8 n hn)) (MQ b) 2 (NA b)
  (fun i hi s x hs=>by
   obtain⟨v,x⟩:=x;have e5:=cz (i:=i) (by omega);have hx:=v8 _ (ar hi);have h6:=bG.int kv b.gone[i] hx.1 (by have:=hx.2;omega);have h7:=da hx;simp only[aH];have e6:=fT s (dE b.gone[i]) (by omega);simp (maxSteps:=9^9) [dp.l1,MQ,hi,h6,e5,e6])
  (fun s x=>by
   obtain⟨v,x⟩:=x;simp only[aH];simp (maxSteps:=9^9) [dp.l1,MQ,NA]) (xO b++texts oa b.ae++iK b.gone.length) (by simp;omega)
 have e1:=fT (dE b.gid) (iK b.name.length) (by omega);have e2:=fT (dE b.gid++iK b.name.length) b.name (by simp;omega);have e3:=fT (dE b.gid++iK b.name.length++b.name) (dE b.time) (by simp;omega);have e4:=fT (dE b.gid++iK b.name.length++b.name++dE b.time) (dE b.eD) (by simp;omega);have e5:=fT (dE b.gid++iK b.name.length++b.name++dE b.time++dE b.eD) (dE b.next) (by simp;omega);have e6:=fT (dE b.gid++iK b.name.length++b.name++dE b.time++dE b.eD++dE b.next) (iK b.ae.length) (by simp;omega);have e7:xO b=dE b.gid++iK b.name.length++b.name++dE b.time++dE b.eD++dE b.next++iK b.ae.length:=by simp[xO]
 rw[←e7] at e6;have e8:=fT (xO b++texts oa b.ae) (iK b.gone.length) (by simp;omega);simp only[ct] at e1 e2 e3 e4 e5 e6 e8;simp[MP,Nx] at hr;simp[MQ,NA] at hr';simp only[sB];have m1:b.ae.length+1≤b.ae.length+b.gone.length+1:=by omega
 have m2:b.gone.length+1≤b.ae.length+b.gone.length+1:=by omega
 have hr2:=fun x y=>gP (hr x y) m1
 have hr3:=fun x y=>gP (hr' x y) m2
 generalize xO b=p at*;generalize texts oa b.ae=q at*;generalize texts dE b.gone=r at*;simp (maxSteps:=9^9) [a8,dp.m,dp.b,aa,hr2,hr3,h1,g1,g2,g3,g4,g5,g6,g7,e1,e2,e3,e4,e5,e6,e8]
abbrev iX:=Int×Bool
abbrev mX(v:Nat)(l:List UInt8)(c:iX):Ob:=⟨v,3,true,true,[[S l,I c.1,.bool c.2]]⟩
abbrev p6:T:= .ptr 0 0 0 0
def cvar(l:List UInt8)(c:iX):Int×iX:=if c.2=true∨(fS l c.1).2.2=false then(0,c.1,true) else((fS l c.1).1,(fS l c.1).2.1,false)
def g_(l:List UInt8)(c:iX):List UInt8×iX:=if c.2=true∨(gT l c.1).2.2=false then([],c.1,true) else((gT l c.1).1,(gT l c.1).2.1,false)
theorem bS.al(h:bS.k M)(l:List UInt8)(hl:l.length≤4611686018427387904)(c:iX):
  run M 152 [.c p6] [(0,mX 0 l c)]=some (.c (I (cvar l c).1),[(0,mX 0 l (cvar l c).2)]):=by
 obtain⟨a,b⟩:=c;have h1:=cw.al h.2 l hl a;refine ao (b:=bS.m) h.1 ⟨0, ?_⟩;unfold cvar;generalize fS l a=r at*;obtain⟨n,e,ok⟩:=r;cases b<;>cases ok<;>simp (maxSteps:=9^9) [a8,bS.m,bS.b,aa,setAt,h1]
theorem eH.al(h:eH.k M)(l:List UInt8)(hl:l.length≤4611686018427387904)(c:iX):
  run M 153 [.c p6] [(0,mX 0 l c)]=some (.c (S (g_ l c).1),[(0,mX 0 l (g_ l c).2)]):=by
 obtain⟨a,b⟩:=c;have h1:=ee.al h.2 l hl a;refine ao (b:=eH.m) h.1 ⟨0, ?_⟩;unfold g_;generalize gT l a=r at*;obtain⟨n,e,ok⟩:=r;cases b<;>cases ok<;>simp (maxSteps:=9^9) [a8,eH.m,eH.b,aa,setAt,h1]
theorem cq.al(h:cq.k M)(l:List UInt8)(hl:l.length≤4611686018427387904)(c:iX):
  run M 139 [.c p6] [(0,mX 0 l c)]=some (.c (I (cvar l c).1),[(0,mX 0 l (cvar l c).2)]):=by
 obtain⟨a,b⟩:=c;have h1:=cv.al h.2 l hl a;refine ao (b:=cq.m) h.1 ⟨0, ?_⟩;unfold cvar;generalize fS l a=r at*;obtain⟨n,e,ok⟩:=r;cases b<;>cases ok<;>simp (maxSteps:=9^9) [a8,cq.m,cq.b,aa,setAt,h1]
theorem fZ.al(h:fZ.k M)(l:List UInt8)(hl:l.length≤4611686018427387904)(c:iX):
  run M 140 [.c p6] [(0,mX 0 l c)]=some (.c (S (g_ l c).1),[(0,mX 0 l (g_ l c).2)]):=by
 obtain⟨a,b⟩:=c;have h1:=dU.al h.2 l hl a;refine ao (b:=fZ.m) h.1 ⟨0, ?_⟩;unfold g_;generalize gT l a=r at*;obtain⟨n,e,ok⟩:=r;cases b<;>cases ok<;>simp (maxSteps:=9^9) [a8,fZ.m,fZ.b,aa,setAt,h1]
def jM(l:List UInt8)(most:Int)(c:iX):Int×iX:=
 if most<(cvar l c).1∨(cvar l c).2.2=true then(0,(cvar l c).2.1,true) else cvar l c
theorem dZ.al(h:dZ.k M)(l:List UInt8)(hl:l.length≤4611686018427387904)(most:Int)(c:iX):
  run M 169 [.c p6,.c (I most)] [(0,mX 0 l c)]=some (.c (I (jM l most c).1),[(0,mX 0 l (jM l most c).2)]):=by
 have h1:=bS.al h.2 l hl c;refine ao (b:=dZ.m) h.1 ⟨0, ?_⟩;unfold jM;generalize cvar l c=r at*;obtain⟨n,e,b⟩:=r;by_cases c1:most<n
 ·simp (maxSteps:=9^9) [a8,dZ.m,dZ.b,aa,setAt,h1,c1]
 ·cases b<;>simp (maxSteps:=9^9) [a8,dZ.m,dZ.b,aa,h1,c1]
def mc(l:List UInt8)(c:iX):(Int×Int)×iX:=(((cvar l c).1,(cvar l (cvar l c).2).1),(cvar l (cvar l c).2).2)
theorem fD.al(h:fD.k M)(l:List UInt8)(hl:l.length≤4611686018427387904)(c:iX):
  run M 222 [.c p6] [(0,mX 0 l c)]=some (.a [I (mc l c).1.1,I (mc l c).1.2],[(0,mX 0 l (mc l c).2)]):=by
 have h1:=bS.al h.2 l hl c;have h2:=bS.al h.2 l hl (cvar l c).2;refine ao (b:=fD.m) h.1 ⟨0, ?_⟩;simp (maxSteps:=9^9) [a8,fD.m,fD.b,aa,setAt,h1,h2,mc]
def lp{α:Type}(p:iX→α×iX):Nat→iX→List α×iX
 |0,c=>([],c)
 |n+1,c=>((p c).1::(lp p n (p c).2).1,(lp p n (p c).2).2)
theorem lH{α:Type}(p:iX→α×iX):∀n c,(lp p n c).1.length=n
 |0,c=>rfl
 |n+1,c=>by simp[lp,lH p n]
theorem ry{α β γ:Type}(n:Nat)(p:iX→α×iX){f:St→Option (Out×St)}(S:Nat→List α→iX→β→St)(e:Nat)(E:List α→iX→γ→St)
  (h1:∀i,i<n→∀acc c x,acc.length=i→∃y,f (S i acc c x)=some (.normal,S (i+1) (acc++[(p c).1]) (p c).2 y))
  (h3:∀acc c x,acc.length=n→∃y,f (S n acc c x)=some (.exit e,E acc c y)) (c:iX):
  ∃g:β→γ,∀x,fi f (n+1) (S 0 [] c x)=some (.exit e,E (lp p n c).1 (lp p n c).2 (g x)):=by
 have:=jP (f:=f) (fun s:Nat×List α×iX=>S s.1 s.2.1 s.2.2) (fun s=>s.1≤n∧s.2.1.length=s.1) (fun s=>n-s.1) (fun s=>(s.2.1++(lp p (n-s.1) s.2.2).1,(lp p (n-s.1) s.2.2).2)) (fun q m=>(.exit e,E q.1 q.2 m)) ?_ (n+1) (0,[],c) ⟨Nat.zero_le _,rfl⟩ (by simp)
 ·simpa using this
 rintro ⟨i,acc,c⟩ x ⟨hi,ha⟩;simp only at hi ha;by_cases hlt:i<n
 ·left;obtain⟨y,hy⟩:=h1 i hlt acc c x ha;refine⟨(i+1,acc++[(p c).1],(p c).2),y,hy,⟨hlt,by simp[ha]⟩,by simp only;omega, ?_⟩;simp only;rw[show n-i=(n-(i+1))+1 by omega];simp[lp]
 ·have:i=n:=by omega
  subst this;right;obtain⟨y,hy⟩:=h3 acc c x ha;exact⟨y,by simp[hy,lp],by simp⟩
def nX(l:List UInt8)(most:Int)(c:iX):List Int×iX:=lp (cvar l) (jM l most c).1.toNat (jM l most c).2
theorem oT(l:List UInt8)(c:iX):0≤(cvar l c).1∧(cvar l c).1≤1000000000:=by
 have:=(pa l c.1).1;unfold cvar;split<;>simp<;>omega
theorem p8(l:List UInt8)(most:Int)(c:iX):0≤(jM l most c).1∧(jM l most c).1≤1000000000∧(0≤most→(jM l most c).1≤most):=by
 have:=oT l c;unfold jM;split
 ·simp
 ·rename_i h;rw[not_or] at h;omega
def My(l:List UInt8)(n:Nat)(i:Nat)(acc:List Int)(c:iX)(x:Nat×Nat):St:={t:=[(0,.c p6),(5,.c (.row 8 x.1 0 i)),(12,.c (I n)),(13,.c (I i))],o:=[(0,mX 0 l c),(8,⟨x.1,1,true,false,ax acc⟩)],n:=x.2}
def Nd(l:List UInt8)(n:Nat)(acc:List Int)(c:iX)(x:Nat×Nat):St:={t:=[(0,.c p6),(5,.c (.row 8 x.1 0 n)),(12,.c (I n)),(13,.c (I n)),(14,.c (.bool false))],o:=[(0,mX 0 l c),(8,⟨x.1,1,true,false,ax acc⟩)],n:=x.2}
theorem dC.al(h:dC.k M)(l:List UInt8)(hl:l.length≤4611686018427387904)(most:Int)(c:iX):
  run M 170 [.c p6,.c (I most)] [(0,mX 0 l c)]=some (.c (.sl true 1 (ax (nX l most c).1)),[(0,mX 0 l (nX l most c).2)]):=by
 obtain⟨h0,k1,k2⟩:=h;have h1:=dZ.al k2 l hl most c;have hn:=p8 l most c;unfold nX;generalize jM l most c=q at*;obtain⟨n,c1⟩:=q;simp only at hn ⊢;obtain⟨n,rfl⟩:=hH hn.1;simp only[eS];refine ao (b:=dC.m) h0 ⟨n+1, ?_⟩;obtain⟨g,hr⟩:=ry (f:=cy (run M) (n+1) dC.l0) n (cvar l) (My l n) 0 (Nd l n)
  (fun i hi acc c x ha=>by
   obtain⟨v,x⟩:=x;have h2:=bS.al k1 l hl c;have e5:=cz (i:=i) (by omega);have e6:i+1≤4294967296:=by omega
   have hii:(i:Int)<n:=by omega
   simp only[aH];simp (maxSteps:=9^9) [dC.l0,My,hii,h2,e5,e6,ha,ax,ab])
  (fun acc c x ha=>by
   obtain⟨v,x⟩:=x;simp only[aH];simp (maxSteps:=9^9) [dC.l0,My,Nd]) c1
 have hlen:=lH (cvar l) n c1;simp[My,Nd,ax] at hr;simp (maxSteps:=9^9) [a8,dC.m,dC.b,aa,h1,hr,hlen,ax,ab]
theorem wrap_one:IntKind.i64.wrap 1=1:=wrap_i64 (by omega) (by omega)
def sA(l:List UInt8)(c:iX):mB×iX:=(⟨(cvar l c).1,(mc l (cvar l c).2).1.1,(mc l (cvar l c).2).1.2⟩,(mc l (cvar l c).2).2)
def jC(l:List UInt8)(c:iX):bp×iX:=
 let g:=cvar l c
 let u:=cvar l g.2
 let f:=lp (sA l) 3 u.2
 let t:=g_ l f.2
 (⟨g.1,u.1,f.1,t.1⟩,t.2)
abbrev rR:List T:=[I 0,.str ⟨#[]⟩,I 0,I 0,I 0,.aO 4,.aO 1]
abbrev sK:List T:=[I 0,I 0,.aO 3,.str ⟨#[]⟩]
structure kO where
 a:Nat
 b:Nat
 c:Nat
 d:Nat
theorem kO.ex{p:kO→Prop}:(∃x,p x)↔∃a b c d,p ⟨a,b,c,d⟩:=⟨fun⟨⟨a,b,c,d⟩,h⟩=>⟨a,b,c,d,h⟩,fun⟨a,b,c,d,h⟩=>⟨⟨a,b,c,d⟩,h⟩⟩
def LL(l:List UInt8)(g u:Int)(i:Nat)(acc:List mB)(c:iX)(x:kO):St:={t:=[(0,.c p6),(2,.c (.ptr 2 x.a 0 0)),(3,.c (.ptr 3 x.b 0 0)),(11,.c (I i))],o:=[(0,mX 0 l c),(2,⟨x.a,4,true,true,[sK]⟩),(3,⟨x.b,4,true,true,[[I g,I u,if i=0 then .aO 3 else .row 23 x.c 0 i,.str ⟨#[]⟩]]⟩)]++if i=0 then [] else [(23,⟨x.c,3,true,false,acc.map aF⟩)],n:=x.d}
def Ng(l:List UInt8)(g u:Int)(acc:List mB)(c:iX)(x:kO):St:={t:=[(0,.c p6),(2,.c (.ptr 2 x.a 0 0)),(3,.c (.ptr 3 x.b 0 0)),(11,.c (I 3)),(12,.c (.bool false))],o:=[(0,mX 0 l c),(2,⟨x.a,4,true,true,[sK]⟩),(3,⟨x.b,4,true,true,[[I g,I u,.row 23 x.c 0 3,.str ⟨#[]⟩]]⟩),(23,⟨x.c,3,true,false,acc.map aF⟩)],n:=x.d}
theorem d_.al(h:d_.k M)(l:List UInt8)(hl:l.length≤4611686018427387904)(c:iX):
  run M 223 [.c p6] [(0,mX 0 l c)]=some (.a (iW (jC l c).1),[(0,mX 0 l (jC l c).2)]):=by
 obtain⟨h0,k1,k2,k3⟩:=h;have h1:=bS.al k1 l hl c;have h2:=bS.al k1 l hl (cvar l c).2;refine ao (b:=d_.m) h0 ⟨4, ?_⟩;obtain⟨g,hr⟩:=ry (f:=cy (run M) 4 d_.l0) 3 (sA l) (LL l (cvar l c).1 (cvar l (cvar l c).2).1) 0 (Ng l (cvar l c).1 (cvar l (cvar l c).2).1)
  (fun i hi acc c x ha=>by
   obtain⟨v,w,z,x⟩:=x;have h2:=bS.al k1 l hl c;have h3:=fD.al k3 l hl (cvar l c).2;have e5:=cz (i:=i) (by omega);have hii:(i:Int)<3:=by omega
   simp only[kO.ex];cases i with
   |zero=>
    have:acc=[]:=ba ha;subst this;simp (maxSteps:=9^9) [d_.l0,setAt,LL,h2,h3,wrap_one,aF,sA]
   |succ i=>
    have e6:i+1+1≤4294967296:=by omega
    have e7:(i:Int)+1<3:=by omega
    have e5:IntKind.i64.wrap ((i:Int)+1+1)=(i:Int)+1+1:=wrap_i64 (by omega) (by omega);simp (maxSteps:=9^9) [d_.l0,setAt,LL,e7,h2,h3,e5,e6,ha,aF,sA,ab])
  (fun acc c x ha=>by
   obtain⟨v,w,z,x⟩:=x;simp only[kO.ex];simp (maxSteps:=9^9) [d_.l0,LL,Ng]) (cvar l (cvar l c).2).2
 have hlen:=lH (sA l) 3 (cvar l (cvar l c).2).2;have h4:=eH.al k2 l hl (lp (sA l) 3 (cvar l (cvar l c).2).2).2;simp only[jC];generalize lp (sA l) 3 (cvar l (cvar l c).2).2=q at*
 replace hr:=fun a b d=>hr ⟨a,b,0,d⟩
 simp[LL,Ng] at hr;simp (maxSteps:=9^9) [a8,d_.m,d_.b,aa,setAt,h1,h2,h4,hr,hlen,ab]
theorem gM.al(h:gM.k M)(l:List mB)(hl:l.length≤1048576):run M 239 [.c (jE l)] []=some (.c (.sl true 3 (l.map aF)),[]):=by
 refine ao (b:=gM.m) h ⟨0, ?_⟩;have e:(l.map aF).length=l.length:=by simp
 have h1:l.length≤4294967296:=by omega
 simp only[jE];generalize l.map aF=r at*;simp (maxSteps:=9^9) [a8,gM.m,gM.b,aa,e,h1,ab]
theorem h_.al(h:h_.k M)(l:List mB)(hl:l.length≤1048576):run M 241 [.c (jE l)] []=some (.c (.sl true 3 (l.map aF)),[]):=by
 refine ao (b:=h_.m) h ⟨0, ?_⟩;have e:(l.map aF).length=l.length:=by simp
 have h1:l.length≤4294967296:=by omega
 simp only[jE];generalize l.map aF=r at*;simp (maxSteps:=9^9) [a8,h_.m,h_.b,aa,e,h1,ab]
theorem eQ.al(h:eQ.k M)(m:bp)(hl:m.flags.length≤1048576):run M 233 [.a (ah m)] []=some (.a (iW m),[]):=by
 have h1:=gM.al h.2 m.flags hl;refine ao (b:=eQ.m) h.1 ⟨0, ?_⟩;have e:(m.flags.map aF).length=m.flags.length:=by simp
 simp only[ah,iW,jE] at*;generalize m.flags.map aF=r at*;simp (maxSteps:=9^9) [a8,eQ.m,eQ.b,aa,setAt,h1,e,ab]
theorem fU.al(h:fU.k M)(m:bp)(hl:m.flags.length≤1048576):run M 238 [.a (ah m)] []=some (.a (iW m),[]):=by
 have h1:=h_.al h.2 m.flags hl;refine ao (b:=fU.m) h.1 ⟨0, ?_⟩;have e:(m.flags.map aF).length=m.flags.length:=by simp
 simp only[ah,iW,jE] at*;generalize m.flags.map aF=r at*;simp (maxSteps:=9^9) [a8,fU.m,fU.b,aa,setAt,h1,e,ab]
theorem lh{β γ:Type}(n:Nat){f:St→Option (Out×St)}(S:Nat→β→St)(e:Nat)(E:γ→St)
  (h1:∀i,i<n→∀x,∃y,f (S i x)=some (.normal,S (i+1) y)) (h3:∀x,∃y,f (S n x)=some (.exit e,E y)):
  ∃g:β→γ,∀x,fi f (n+1) (S 0 x)=some (.exit e,E (g x)):=by
 refine jP (f:=f) S (fun i=>i≤n) (fun i=>n-i) (fun _=>()) (fun _ m=>(.exit e,E m)) ?_ (n+1) 0 (Nat.zero_le _) (by omega);intro i x hi;by_cases hlt:i<n
 ·left;obtain⟨y,hy⟩:=h1 i hlt x;exact⟨i+1,y,hy,hlt,by omega,rfl⟩
 ·have:i=n:=by omega
  subst this;right;obtain⟨y,hy⟩:=h3 x;exact⟨y,by simp[hy],by simp⟩
def L4(b:bz)(i:Nat)(x:kO×Nat):List (Nat×Ob):=[(1,⟨x.1.a,7,true,true,[af b]⟩),(2,⟨x.1.b,7,true,true,[rR]⟩),(3,⟨x.2,7,true,true,[[I b.gid,S b.name,I b.time,I b.eD,I b.next,.row 7 x.1.c 0 i,ints b.gone]]⟩),(7,⟨x.1.c,4,true,false,(b.ae.take i).map ah⟩)]
def ML(b:bz)(i:Nat)(x:kO×Nat):St:={t:=[(1,.c (.ptr 1 x.1.a 0 0)),(2,.c (.ptr 2 x.1.b 0 0)),(3,.c (.ptr 3 x.2 0 0)),(10,.c (ae b.ae)),(11,.c (I b.ae.length)),(12,.c (I i))],o:=L4 b i x,n:=x.1.d}
def Nq(b:bz)(x:kO×Nat):St:={t:=[(1,.c (.ptr 1 x.1.a 0 0)),(2,.c (.ptr 2 x.1.b 0 0)),(3,.c (.ptr 3 x.2 0 0)),(10,.c (ae b.ae)),(11,.c (I b.ae.length)),(12,.c (I b.ae.length)),(13,.c (.bool false))],o:=L4 b b.ae.length x,n:=x.1.d}
theorem il{α:Type}(l:List α)(i:Nat)(h:i<l.length):l.take (i+1)=l.take i++[l[i]]:=List.take_succ_eq_append_getElem h
theorem cA.al(h:cA.k M)(b:bz)(hb:iw b):run M 155 [.a (af b)] []=some (.a (bM b),[]):=by
 obtain⟨h0,k1,k2⟩:=h;have hm:=hb.m;have h1:=fj.al k1 b.gone hb.g;refine ao (b:=cA.m) h0 ⟨b.ae.length+1, ?_⟩;obtain⟨g,hr⟩:=lh (f:=cy (run M) (b.ae.length+1) cA.l0) b.ae.length (ML b) 0 (Nq b)
  (fun i hi x=>by
   obtain⟨⟨v1,v2,v3,n⟩,v4⟩:=x;have h2:=eQ.al k2 b.ae[i] (hb.f _ (ar hi));have e5:=cz (i:=i) (by omega);have e6:i+1≤4294967296:=by omega
   have e7:((b.ae.take i).map ah).length=i:=by simp;omega
   have e8:((b.ae.take (i+1)).map ah)=(b.ae.take i).map ah++[ah b.ae[i]]:=by rw[il _ _ hi,cU];rfl
   simp only[ML,L4,e8,aH,kO.ex];generalize (b.ae.take i).map ah=rr at*;simp only[ah,iW] at h2;simp (maxSteps:=9^9) [cA.l0,aa,setAt,hi,h2,e5,e6,e7,ah,ab];exact⟨_,_,_,_,_,⟨rfl,rfl,rfl⟩,⟨rfl,rfl,rfl,rfl⟩,rfl⟩)
  (fun x=>by
   obtain⟨⟨v1,v2,v3,n⟩,v4⟩:=x;simp only[aH,kO.ex];simp (maxSteps:=9^9) [cA.l0,aa,ML,Nq,L4];exact⟨_,_,_,_,_,⟨rfl,rfl,rfl⟩,⟨rfl,rfl,rfl,rfl⟩,rfl⟩)
 have e7:(b.ae.map ah).length=b.ae.length:=by simp
 have e8:=aI b.gone;have e9:b.ae.take b.ae.length=b.ae:=by simp
 simp only[ints] at h1;simp only[ML,Nq,L4,e9,List.take_zero,bJ,ints] at hr
 replace hr:=fun a b c d n=>hr ⟨⟨a,b,c,d⟩,n⟩
 simp only[af,bM,ae,ints] at hr ⊢;generalize b.ae.map ah=rm at*;generalize ax b.gone=rg at*;simp at hr;simp (maxSteps:=9^9) [a8,cA.m,cA.b,aa,setAt,hr,h1,e7,e8,ab]
def Ly(b:bz)(i:Nat)(x:kO×Nat):List (Nat×Ob):=[(1,⟨x.1.a,7,true,true,[af b]⟩),(2,⟨x.1.b,7,true,true,[rR]⟩),(3,⟨x.2,7,true,true,[[I b.gid,S b.name,I b.time,I b.eD,I b.next,.row 6 x.1.c 0 i,ints b.gone]]⟩),(6,⟨x.1.c,4,true,false,(b.ae.take i).map ah⟩)]
def Ms(b:bz)(i:Nat)(x:kO×Nat):St:={t:=[(1,.c (.ptr 1 x.1.a 0 0)),(2,.c (.ptr 2 x.1.b 0 0)),(3,.c (.ptr 3 x.2 0 0)),(4,.c (I i))],o:=Ly b i x,n:=x.1.d}
def M_(b:bz)(x:kO×Nat):St:={t:=[(1,.c (.ptr 1 x.1.a 0 0)),(2,.c (.ptr 2 x.1.b 0 0)),(3,.c (.ptr 3 x.2 0 0)),(4,.c (I b.ae.length)),(12,.c (.bool false))],o:=Ly b b.ae.length x,n:=x.1.d}
theorem b5.al(h:b5.k M)(b:bz)(hb:iw b):run M 180 [.a (af b)] []=some (.a (bM b),[]):=by
 obtain⟨h0,k2⟩:=h;have hm:=hb.m;have hg:=hb.g;refine ao (b:=b5.m) h0 ⟨b.ae.length+1, ?_⟩;obtain⟨g,hr⟩:=lh (f:=cy (run M) (b.ae.length+1) b5.l0) b.ae.length (Ms b) 0 (M_ b)
  (fun i hi x=>by
   obtain⟨⟨v1,v2,v3,n⟩,v4⟩:=x;have h2:=fU.al k2 b.ae[i] (hb.f _ (ar hi));have e5:=cz (i:=i) (by omega);have e6:i+1≤4294967296:=by omega
   have e7:((b.ae.take i).map ah).length=i:=by simp;omega
   have e8:((b.ae.take (i+1)).map ah)=(b.ae.take i).map ah++[ah b.ae[i]]:=by rw[il _ _ hi,cU];rfl
   simp only[Ms,Ly,e8,aH,kO.ex];generalize (b.ae.take i).map ah=rr at*;simp only[ah,iW] at h2;simp (maxSteps:=9^9) [b5.l0,aa,setAt,hi,h2,e5,e6,e7,ah,ab];exact⟨_,_,_,_,_,⟨rfl,rfl,rfl⟩,⟨rfl,rfl,rfl,rfl⟩,rfl⟩)
  (fun x=>by
   obtain⟨⟨v1,v2,v3,n⟩,v4⟩:=x;simp only[aH,kO.ex];simp (maxSteps:=9^9) [b5.l0,aa,Ms,M_,Ly];exact⟨_,_,_,_,_,⟨rfl,rfl,rfl⟩,⟨rfl,rfl,rfl,rfl⟩,rfl⟩)
 have e7:(b.ae.map ah).length=b.ae.length:=by simp
 have e8:=aI b.gone;have e9:b.ae.take b.ae.length=b.ae:=by simp
 have e6:b.gone.length≤4294967296:=by omega
 simp only[Ms,M_,Ly,e9,List.take_zero,bJ,ints] at hr
 replace hr:=fun a b c d n=>hr ⟨⟨a,b,c,d⟩,n⟩
 simp only[af,bM,ae,ints] at hr ⊢;generalize b.ae.map ah=rm at*;generalize ax b.gone=rg at*;simp at hr;simp (maxSteps:=9^9) [a8,b5.m,b5.b,aa,setAt,hr,e6,e7,e8,ab]
def nN(n:Int)(i:Nat):Int:=n.fdiv ((2^i:Nat):Int)%2
theorem Dy(x:Int):ud .i64 x 1=x%2:=by
 unfold ud;have h1:(BitVec.ofInt IntKind.i64.bits x&&&BitVec.ofInt IntKind.i64.bits 1).toNat=(x%2).toNat:=by
  change (BitVec.ofInt 64 x&&&BitVec.ofInt 64 1).toNat=(x%2).toNat;simp only[BitVec.toNat_and,BitVec.toNat_ofInt];have:((1:Int)%((2^64:Nat):Int)).toNat=1:=by decide
  rw[this,Nat.and_one_is_mod];have h2:(x%((2^64:Nat):Int)).toNat%2=(x%((2^64:Nat):Int)%2).toNat:=by
   have:0≤x%((2^64:Nat):Int):=Int.emod_nonneg _ (by decide);omega
  rw[h2];congr 1;have:((2^64:Nat):Int)=18446744073709551616:=by decide
  rw[this];omega
 rw[h1,wrap_i64 (by omega) (by omega)];omega
def jI(n t w:Int):List mB:=[⟨nN n 0,t,w⟩,⟨nN n 1,t,w⟩,⟨nN n 2,t,w⟩]
theorem gv.al(h:gv.k M)(n t w:Int):run M 157 [.c (I n),.a [I t,I w]] []=some (.c (.sl true 3 ((jI n t w).map aF)),[]):=by
 refine ao (b:=gv.m) h ⟨4, ?_⟩;have w2:IntKind.i64.wrap 2=2:=wrap_i64 (by omega) (by omega);have w3:IntKind.i64.wrap 3=3:=wrap_i64 (by omega) (by omega);simp (maxSteps:=9^9) [a8,gv.m,gv.b,aa,setAt,fi,gv.l0,wrap_one,w2,w3,Dy,jI,aF,nN,IntKind.bits]
theorem Ae(x:Int):(x.tmod 2=0)↔x%2=0:=
 ⟨fun h=>Int.emod_eq_zero_of_dvd (Int.dvd_of_tmod_eq_zero h),fun h=>Int.tmod_eq_zero_of_dvd (Int.dvd_of_emod_eq_zero h)⟩
theorem gr.al(h:gr.k M)(n t w:Int):run M 181 [.c (I n),.a [I t,I w]] []=some (.c (.sl true 3 ((jI n t w).map aF)),[]):=by
 refine ao (b:=gr.m) h ⟨4, ?_⟩;have w2:IntKind.i64.wrap 2=2:=wrap_i64 (by omega) (by omega);have w3:IntKind.i64.wrap 3=3:=wrap_i64 (by omega) (by omega);have u0:IntKind.u64.wrap 0=0:=by decide
 have u1:IntKind.u64.wrap 1=1:=by decide
 have u2:IntKind.u64.wrap 2=2:=by decide
 have key:∀i:Nat,nN n i=if(n.fdiv ((2^i:Nat):Int)).tmod 2=0 then 0 else 1:=by
  intro i;unfold nN;by_cases c:(n.fdiv ((2^i:Nat):Int)).tmod 2=0
  ·rw[if_pos c];exact(Ae _).1 c
  ·rw[if_neg c];rw[Ae] at c;omega
 have k0:=key 0;have k1:=key 1;have k2:=key 2;by_cases c0:(n.fdiv ((2^0:Nat):Int)).tmod 2=0<;>by_cases c1:(n.fdiv ((2^1:Nat):Int)).tmod 2=0<;>by_cases c2:(n.fdiv ((2^2:Nat):Int)).tmod 2=0<;>
  simp only[c0,c1,c2,if_true,if_false] at k0 k1 k2<;>simp at c0 c1 c2<;>
  simp (maxSteps:=9^9) [a8,gr.m,gr.b,aa,setAt,fi,gr.l0,wrap_one,w2,w3,u0,u1,u2,jI,aF,k0,k1,k2,c0,c1,c2,IntKind.bits]
def rk(l:List bp)(i:Nat):Int:=match l[i]? with|some m=>m.uid|none=>0
def jo(a b:bz)(g:Int):Bool:=match gh a.ae g with
 |none=>false
 |some i=>match gh b.ae g with
  |some k=>decide (rk a.ae i=rk b.ae k)
  |none=>decide (b.next≤rk a.ae i)
theorem dP.al(h:dP.k M)(a b:bz)(g:Int)(ha:a.ae.length≤1048576)(hb:b.ae.length≤1048576):run M 22 [.a (af a),.a (af b),.c (I g)] []=some (.c (.bool (jo a b g)),[]):=by
 have h1:=bP.al h.2 a g ha;have h2:=bP.al h.2 b g hb;refine ao (b:=dP.m) h.1 ⟨0, ?_⟩;simp only[af] at h1 h2;unfold jo;cases hi:gh a.ae g with
 |none=>
  simp[hi,dN] at h1;simp[a8,dP.m,dP.b,aa,h1]
 |some i=>
  have li:=uO _ _ _ _ _ hi;simp[hi,dN] at h1;have di:¬(i:Int)<0:=by omega
  have ui:rk a.ae i=a.ae[i].uid:=by simp[rk,li]
  cases hk:gh b.ae g with
  |none=>
   simp[hk,dN] at h2;simp[a8,dP.m,dP.b,aa,h1,h2,di,li,ui,ah]
  |some k=>
   have lk:=uO _ _ _ _ _ hk;have uk:rk b.ae k=b.ae[k].uid:=by simp[rk,lk]
   simp[hk,dN] at h2;simp[a8,dP.m,dP.b,aa,h1,h2,di,li,ui,lk,uk,ah]
theorem dQ.al(h:dQ.k M)(a b:bz)(g:Int)(ha:a.ae.length≤1048576)(hb:b.ae.length≤1048576):run M 23 [.a (af a),.a (af b),.c (I g)] []=some (.c (.bool (jo a b g)),[]):=by
 have h1:=cJ.al h.2 a g ha;have h2:=cJ.al h.2 b g hb;refine ao (b:=dQ.m) h.1 ⟨0, ?_⟩;simp only[af] at h1 h2;unfold jo;cases hi:gh a.ae g with
 |none=>
  simp[hi,dN] at h1;simp[a8,dQ.m,dQ.b,aa,h1,h2]
 |some i=>
  have li:=uO _ _ _ _ _ hi;simp[hi,dN] at h1;have di:¬(i:Int)<0:=by omega
  have ui:rk a.ae i=a.ae[i].uid:=by simp[rk,li]
  cases hk:gh b.ae g with
  |none=>
   simp[hk,dN] at h2;simp[a8,dQ.m,dQ.b,aa,h1,h2,di,li,ui,ah]
  |some k=>
   have lk:=uO _ _ _ _ _ hk;have uk:rk b.ae k=b.ae[k].uid:=by simp[rk,lk]
   simp[hk,dN] at h2;by_cases c:a.ae[i].uid=b.ae[k].uid
   ·simp[a8,dQ.m,dQ.b,aa,h1,h2,di,li,ui,lk,uk,ah,c]
   ·have c':¬b.ae[k].uid=a.ae[i].uid:=fun q=>c q.symm
    simp[a8,dQ.m,dQ.b,aa,h1,h2,di,li,ui,lk,uk,ah,c,c']
end Mx
namespace Mx
open Go
def iG{α:Type}(k:α→Int)(acc:List α)(m:α):List α:=acc.filter (fun x=>decide (k x≤k m))++[m]++acc.filter (fun x=>decide (k m<k x))
def fv{α:Type}(k:α→Int)(l:List α):List α:=l.foldl (iG k) []
abbrev n7{α:Type}(k:α→Int)(l:List α):Prop:=l.Pairwise fun x y=>k x≤k y
theorem zM{α:Type}{k:α→Int}{acc:List α}{m:α}(h:n7 k acc):n7 k (iG k acc m):=by
 simp only[iG,n7,List.pairwise_append,List.pairwise_singleton,fJ,decide_eq_true_eq,fy,iu];refine⟨⟨h.filter _,trivial, ?_⟩,h.filter _, ?_⟩
 ·rintro a ⟨_,ha⟩ b rfl;exact ha
 ·rintro a (⟨_,ha⟩|rfl) b ⟨_,hb⟩<;>omega
theorem xg{α:Type}{k:α→Int}(acc:List α)(m:α):(iG k acc m).Perm (m::acc):=by
 have:∀l:List α,(l.filter (fun x=>decide (k x≤k m))++l.filter (fun x=>decide (k m<k x))).Perm l:=by
  intro l;have h:=List.filter_append_perm (fun x=>decide (k x≤k m)) l;have e:(fun x=> !decide (k x≤k m))=fun x=>decide (k m<k x):=by
   funext x;rw[Bool.eq_iff_iff];simp
  rwa [e] at h
 refine List.Perm.trans ?_ ((this acc).cons m);unfold iG;rw[ct];exact List.perm_middle
theorem vm{α:Type}{k:α→Int}:∀(l acc:List α),(l.foldl (iG k) acc).Perm (l++acc)
 |[],acc=>List.Perm.refl _
 |x::l,acc=>by
  refine(vm l (iG k acc x)).trans ?_;refine((xg acc x).append_left l).trans ?_;exact List.perm_middle
theorem sP{α:Type}{k:α→Int}:∀(l acc:List α),n7 k acc→n7 k (l.foldl (iG k) acc)
 |[],acc,h=>h
 |x::l,acc,h=>sP l _ (zM h)
theorem oA{α:Type}{k:α→Int}(l:List α):(fv k l).Perm l:=by unfold fv;simpa using vm (k:=k) l []
theorem ow{α:Type}{k:α→Int}(l:List α):n7 k (fv k l):=sP l [] List.Pairwise.nil
theorem qn{α:Type}{k:α→Int}{l:List α}{z:α}:z∈fv k l↔z∈l:=(oA l).mem_iff
theorem iR{α:Type}{k:α→Int}(l:List α):(fv k l).length=l.length:=(oA l).length_eq
abbrev Bq{α:Type}(k:α→Int)(l:List α):Prop:=l.Pairwise fun x y=>k x<k y
theorem uP{α:Type}{k:α→Int}:∀{a b:List α},Bq k a→Bq k b→(∀x,x∈a↔x∈b)→a=b
 |[],[],_,_,_=>rfl
 |[],y::b,_,_,h=>absurd ((h y).2 (bh ..)) (by simp)
 |x::a,[],_,_,h=>absurd ((h x).1 (bh ..)) (by simp)
 |x::a,y::b,ha,hb,h=>by
  obtain⟨ha1,ha2⟩:=List.pairwise_cons.1 ha;obtain⟨hb1,hb2⟩:=List.pairwise_cons.1 hb;have e:x=y:=by
   rcases List.mem_cons.1 ((h x).1 (bh ..)) with q|q
   ·exact q
   ·rcases List.mem_cons.1 ((h y).2 (bh ..)) with q'|q'
    ·exact q'.symm
    ·have:=ha1 y q';have:=hb1 x q;omega
  subst e;congr 1;refine uP ha2 hb2 fun z=>⟨fun hz=> ?_,fun hz=> ?_⟩
  ·rcases List.mem_cons.1 ((h z).1 (bq _ hz)) with q|q
   ·have:=ha1 z hz;rw[q] at this;omega
   ·exact q
  ·rcases List.mem_cons.1 ((h z).2 (bq _ hz)) with q|q
   ·have:=hb1 z hz;rw[q] at this;omega
   ·exact q
theorem pJ{α:Type}{k:α→Int}:∀{l:List α},n7 k l→(l.map k).Nodup→Bq k l
 |[],_,_=>List.Pairwise.nil
 |x::l,h,hn=>by
  obtain⟨h1,h2⟩:=List.pairwise_cons.1 h;rw[bB,List.nodup_cons] at hn;refine List.pairwise_cons.2 ⟨fun y hy=> ?_,pJ h2 hn.2⟩;have:=h1 y hy;have:k x≠k y:=fun e=>hn.1 (by rw[e];exact iH hy)
  omega
def ld(t w u x:Int):Bool:=decide (u<t)||(decide (t=u)&&decide (x<w))
def pA(a b:mB):mB:=if ld b.time b.eD a.time a.eD=true∨ld a.time a.eD b.time b.eD=false∧a.val<b.val then b else a
def fz(a b:List mB):List mB:=List.zipWith pA a b
def Ki(a b:List UInt8):List UInt8:=if jD a b=true then b else a
def iF(a b:bp):bp:=if a.gid=b.gid then⟨a.gid,Max.max a.uid b.uid,fz a.flags b.flags,Ki a.text b.text⟩ else a
def jL(l:List bp)(g:Int):Option bp:=l.find? fun m=>decide (m.gid=g)
theorem mT{l:List bp}{g:Int}{m:bp}(h:jL l g=some m):m∈l∧m.gid=g:=⟨List.mem_of_find?_eq_some h,by simpa using List.find?_some h⟩
theorem oB{l:List bp}{g:Int}:jL l g=none↔∀m∈l,m.gid≠g:=by
 unfold jL;rw[List.find?_eq_none];simp
theorem wS{l:List bp}(h:(l.map (·.gid)).Nodup){m:bp}(hm:m∈l):jL l m.gid=some m:=by
 induction l with
 |nil=>simp at hm
 |cons x l ih=>
  rw[bB,List.nodup_cons] at h;unfold jL at ih ⊢;rw[List.find?_cons];rcases List.mem_cons.1 hm with rfl|hm
  ·simp
  ·have:x.gid≠m.gid:=fun e=>h.1 (by rw[e];exact iH hm)
   simp only[this,decide_false];exact ih h.2 hm
def eI(l:List bp):List Int:=l.map (·.gid)
def nk(a b:List bp)(g:Int):bp:=match jL a g,jL b g with
 |some x,some y=>iF x y
 |some x,none=>x
 |none,some y=>y
 |none,none=>⟨0,0,[],[]⟩
def jg(a b:bz)(g:Int):Bool:=(holds a g&& !jo a b g)||(holds b g&& !jo b a g)
def mr(a b:bz)(s:List bp×Int)(g:Int):List bp×Int:=
 if g∈a.gone∨g∈b.gone then s else
 if jg a b g=true then(iG (·.uid) s.1 {nk a.ae b.ae g with uid:=s.2},s.2+1) else(iG (·.uid) s.1 (nk a.ae b.ae g),s.2)
def jh(a b:bz):List bp×Int:=(aV (eI a.ae) (eI b.ae)).foldl (mr a b) ([],Max.max a.next b.next)
def allM(a b:List bp):List bp:=a.map (fun m=>match jL b m.gid with|some y=>iF m y|none=>m)++b.filter (fun m=>(jL a m.gid).isNone)
def eN(need:Int→Bool):Int→List bp→List bp×Int
 |n,[]=>([],n)
 |n,m::l=>if need m.gid=true then({m with uid:=n}::(eN need (n+1) l).1,(eN need (n+1) l).2) else(m::(eN need n l).1,(eN need n l).2)
def oP(a b:bz):List bp×Int:=
 let l:=eN (jg a b) (Max.max a.next b.next) (fv (·.gid) ((allM a.ae b.ae).filter fun m=> !decide (m.gid∈aV a.gone b.gone)))
 (fv (·.uid) l.1,l.2)
theorem qB(a b:bp):(iF a b).gid=a.gid:=by unfold iF;split<;>rfl
theorem pX{a b:List bp}{g:Int}(h:g∈eI a∨g∈eI b):(nk a b g).gid=g:=by
 unfold nk;cases h1:jL a g with
 |some x=>
  cases h2:jL b g with
  |some y=>simp only[qB];exact(mT h1).2
  |none=>exact(mT h1).2
 |none=>
  cases h2:jL b g with
  |some y=>exact(mT h2).2
  |none=>
   exfalso;rw[oB] at h1 h2;rcases h with h|h
   ·obtain⟨m,hm,e⟩:=List.mem_map.1 h;exact h1 m hm e
   ·obtain⟨m,hm,e⟩:=List.mem_map.1 h;exact h2 m hm e
theorem Gw{a b:List bp}(ha:(eI a).Nodup)(hb:(eI b).Nodup){m:bp}:m∈allM a b↔(m.gid∈eI a∨m.gid∈eI b)∧m=nk a b m.gid:=by
 simp only[allM,iu,ov,fJ];constructor
 ·rintro (⟨x,hx,rfl⟩|⟨hm,hn⟩)
  ·have h1:=wS ha hx;have hg:x.gid∈eI a:=iH hx;cases h2:jL b x.gid with
   |some y=>
    simp only[qB];refine⟨.inl hg, ?_⟩;simp only[nk,h1,h2]
   |none=>
    simp only;refine⟨.inl hg, ?_⟩;simp only[nk,h1,h2]
  ·have h1:=wS hb hm;simp only[b9] at hn;refine⟨.inr (iH hm), ?_⟩;simp only[nk,h1,hn]
 ·rintro ⟨h,e⟩;cases h1:jL a m.gid with
  |some x=>
   left;obtain⟨k1,k2⟩:=mT h1;refine⟨x,k1, ?_⟩;rw[e,k2];simp only[nk,h1];cases h2:jL b m.gid<;>rfl
  |none=>
   right;cases h2:jL b m.gid with
   |none=>
    exfalso;rw[oB] at h1 h2;rcases h with h|h
    ·obtain⟨m',hm,e⟩:=List.mem_map.1 h;exact h1 m' hm e
    ·obtain⟨m',hm,e⟩:=List.mem_map.1 h;exact h2 m' hm e
   |some y=>
    refine⟨?_,by simp⟩;have:m=y:=by rw[e];simp only[nk,h1,h2]
    rw[this];exact(mT h2).1
theorem CK{a b:List bp}(ha:(eI a).Nodup)(hb:(eI b).Nodup):(eI (allM a b)).Nodup:=by
 have e1:eI (a.map (fun m=>match jL b m.gid with|some y=>iF m y|none=>m))=eI a:=by
  unfold eI;rw[List.map_map];apply List.map_congr_left;intro m _;simp only[Function.comp];split
  ·exact qB _ _
  ·rfl
 unfold allM;rw[eI,cU];change (eI _++eI _).Nodup;rw[e1,List.nodup_append];refine⟨ha, ?_, ?_⟩
 ·exact hb.sublist (List.Sublist.map _ List.filter_sublist)
 ·intro x hx y hy e;subst e;obtain⟨m,hm,rfl⟩:=List.mem_map.1 hy;rw[fJ] at hm;simp only[b9,oB] at hm;obtain⟨m',hm',e⟩:=List.mem_map.1 hx;exact hm.2 m' hm' e
theorem Fk{a b:bz}(ha:(eI a.ae).Nodup)(hb:(eI b.ae).Nodup):
  fv (·.gid) ((allM a.ae b.ae).filter fun m=> !decide (m.gid∈aV a.gone b.gone))=((aV (eI a.ae) (eI b.ae)).filter fun g=> !decide (g∈aV a.gone b.gone)).map (nk a.ae b.ae):=by
 refine uP (k:=fun m:bp=>m.gid) ?_ ?_ fun m=> ?_
 ·refine pJ (ow _) ?_;have hp:=(oA (k:=fun m:bp=>m.gid) ((allM a.ae b.ae).filter fun m=> !decide (m.gid∈aV a.gone b.gone))).map (fun m:bp=>m.gid);rw[hp.nodup_iff];exact(CK ha hb).sublist (List.Sublist.map _ List.filter_sublist)
 ·rw[Bq,List.pairwise_map];have h:=(nS (eI a.ae) (eI b.ae)).filter (fun g=> !decide (g∈aV a.gone b.gone));refine List.Pairwise.imp_of_mem ?_ h;intro x y hx hy hxy;rw[fJ,iU] at hx hy;rw[pX hx.1,pX hy.1];exact hxy
 ·rw[qn,fJ,Gw ha hb,ov];constructor
  ·rintro ⟨⟨h1,h2⟩,h3⟩;exact⟨m.gid,List.mem_filter.2 ⟨(iU _ _ _).2 h1,h3⟩,h2.symm⟩
  ·rintro ⟨g,hg,rfl⟩;rw[fJ,iU] at hg;have:=pX hg.1;rw[this];exact⟨⟨hg.1,rfl⟩,hg.2⟩
theorem vl(a b:bz):∀(gs:List Int) (acc:List bp) (n:Int),(∀g∈gs,g∈eI a.ae∨g∈eI b.ae)→
  gs.foldl (mr a b) (acc,n)=((eN (jg a b) n ((gs.filter fun g=> !decide (g∈aV a.gone b.gone)).map (nk a.ae b.ae))).1.foldl (iG (·.uid)) acc,(eN (jg a b) n ((gs.filter fun g=> !decide (g∈aV a.gone b.gone)).map (nk a.ae b.ae))).2)
 |[],acc,n,_=>by simp[eN]
 |g::gs,acc,n,h=>by
  have ih:=fun acc n=>vl a b gs acc n fun g hg=>h g (bq _ hg)
  have hg:=pX (h g (bh ..));rw[ff,mr,iP];by_cases c:g∈a.gone∨g∈b.gone
  ·have c':g∈aV a.gone b.gone:=(iU _ _ _).2 c;rw[if_pos c,ih];simp[c']
  ·have c':¬g∈aV a.gone b.gone:=fun q=>c ((iU _ _ _).1 q)
   rw[if_neg c];simp only[c',decide_false,Bool.not_false,if_true,bB,eN,hg];by_cases c2:jg a b g=true
   ·rw[if_pos c2,if_pos c2,ih];rfl
   ·rw[if_neg c2,if_neg c2,ih];rfl
theorem pW{a b:bz}(ha:(eI a.ae).Nodup)(hb:(eI b.ae).Nodup):oP a b=jh a b:=by
 unfold oP jh;rw[Fk ha hb,vl a b _ _ _ fun g hg=>(iU _ _ _).1 hg];rfl
def ig(a b:bz):bz:=if a.gid=b.gid then
    {gid:=a.gid,name:=if ld b.time b.eD a.time a.eD=true∨ld a.time a.eD b.time b.eD=false∧jD a.name b.name=true then b.name else a.name,
     time:=if ld b.time b.eD a.time a.eD=true∨ld a.time a.eD b.time b.eD=false∧jD a.name b.name=true then b.time else a.time,
     eD:=if ld b.time b.eD a.time a.eD=true∨ld a.time a.eD b.time b.eD=false∧jD a.name b.name=true then b.eD else a.eD,
     next:=(jh a b).2,ae:=(jh a b).1,gone:=aV a.gone b.gone} else a
end Mx
namespace Mx
open Go
variable {M:Nat→Option Body}
theorem gm.al(h:gm.k M)(t w u x:Int):run M 275 [.a [I t,I w],.a [I u,I x]] []=some (.c (.bool (ld t w u x)),[]):=by
 refine ao (b:=gm.m) h ⟨0, ?_⟩;unfold ld;by_cases c1:u<t
 ·simp (maxSteps:=9^9) [a8,gm.m,gm.b,aa,c1]
 by_cases c2:t=u
 ·subst c2;simp (maxSteps:=9^9) [a8,gm.m,gm.b,aa]
 ·simp (maxSteps:=9^9) [a8,gm.m,gm.b,aa,c1,c2]
theorem iq.al(h:iq.k M)(t w u x:Int):run M 277 [.a [I t,I w],.a [I u,I x]] []=some (.c (.bool (ld t w u x)),[]):=by
 refine ao (b:=iq.m) h ⟨0, ?_⟩;unfold ld;by_cases c2:t=u
 ·subst c2;simp (maxSteps:=9^9) [a8,iq.m,iq.b,aa]
 ·simp (maxSteps:=9^9) [a8,iq.m,iq.b,aa,c2]
def uv(r:mB)(v t w:Int):mB:=if ld t w r.time r.eD=true∧nQ ⟨v,t,w⟩=true then⟨v,t,w⟩ else r
theorem je.al(h:je.k M)(r:mB)(v t w:Int):run M 240 [.a (aF r),.c (I v),.a [I t,I w]] []=some (.a (aF (uv r v t w)),[]):=by
 obtain⟨h0,k1,k2⟩:=h;have h1:=jd.al k1 ⟨v,t,w⟩;have h2:=gm.al k2 t w r.time r.eD;refine ao (b:=je.m) h0 ⟨0, ?_⟩;unfold uv;simp only[aF] at h1;generalize ld t w r.time r.eD=a at*;generalize nQ ⟨v,t,w⟩=b at*;cases a<;>cases b<;>simp (maxSteps:=9^9) [a8,je.m,je.b,aa,setAt,h1,h2,aF]
theorem jc.al(h:jc.k M)(r:mB)(v t w:Int):run M 243 [.a (aF r),.c (I v),.a [I t,I w]] []=some (.a (aF (uv r v t w)),[]):=by
 obtain⟨h0,k1,k2⟩:=h;have h1:=ja.al k1 ⟨v,t,w⟩;have h2:=iq.al k2 t w r.time r.eD;refine ao (b:=jc.m) h0 ⟨0, ?_⟩;unfold uv;simp only[aF] at h1;generalize ld t w r.time r.eD=a at*;generalize nQ ⟨v,t,w⟩=b at*;cases a<;>cases b<;>simp (maxSteps:=9^9) [a8,jc.m,jc.b,aa,setAt,h1,h2,aF]
def oN(n t w:Int)(i:Nat)(r:mB):mB:=if r.val=nN n i then r else uv r (nN n i) t w
def lU(l:List mB)(n t w:Int):List mB:=if jZ l=true∧kD 0 n 7=true then l.mapIdx (oN n t w) else l
def j9(l:List mB)(n t w:Int)(k:Nat):List mB:=l.mapIdx fun i r=>if i<k then oN n t w i r else r
theorem wC(l:List mB)(n t w:Int):j9 l n t w 0=l:=by
 unfold j9;simp[List.mapIdx_eq_iff]
theorem yz(l:List mB)(n t w:Int):j9 l n t w l.length=l.mapIdx (oN n t w):=by
 unfold j9;apply List.ext_getElem
 ·simp
 ·intro i h1 h2;simp at h1 ⊢;intro h;omega
theorem rY(l:List mB)(n t w:Int)(k:Nat):(j9 l n t w k).length=l.length:=by simp[j9]
theorem Ao(l:List mB)(n t w:Int)(k:Nat)(h:k<l.length):(j9 l n t w k)[k]'(by simpa [j9] using h)=l[k]:=by simp[j9]
theorem wD(l:List mB)(n t w:Int)(k:Nat)(h:k<l.length):j9 l n t w (k+1)=(j9 l n t w k).set k (oN n t w k l[k]):=by
 unfold j9;apply List.ext_getElem
 ·simp
 ·intro i h1 h2;simp only[List.getElem_mapIdx,List.getElem_set];by_cases c:k=i
  ·subst c;simp
  ·rw[if_neg c];by_cases c2:i<k
   ·rw[if_pos c2,if_pos (by omega)]
   ·rw[if_neg c2,if_neg (by omega)]
def K0(l:List mB)(n t w:Int)(i:Nat)(x:Nat×Nat×Nat):St:={t:=[(1,.c (I n)),(5,.c (.ptr 5 x.1 0 0)),(7,.c (.row 11200 x.2.1 0 l.length)),(22,.c (.row 11200 x.2.1 0 l.length)),(23,.c (I l.length)),(24,.c (I i))],o:=[(5,⟨x.1,2,true,true,[[I t,I w]]⟩),(11200,⟨x.2.1,3,true,false,(j9 l n t w i).map aF⟩)],n:=x.2.2}
def M8(l:List mB)(n t w:Int)(x:Nat×Nat×Nat):St:={t:=[(1,.c (I n)),(5,.c (.ptr 5 x.1 0 0)),(7,.c (.row 11200 x.2.1 0 l.length)),(22,.c (.row 11200 x.2.1 0 l.length)),(23,.c (I l.length)),(24,.c (I l.length)),(25,.c (.bool false))],o:=[(5,⟨x.1,2,true,true,[[I t,I w]]⟩),(11200,⟨x.2.1,3,true,false,(j9 l n t w l.length).map aF⟩)],n:=x.2.2}
theorem vF(n:Int)(i:Nat):0≤nN n i∧nN n i≤1:=by unfold nN;omega
theorem cP.JO(k:je.k M)(l:List mB)(n t w:Int)(K i:Nat)(hl:l.length=3)(hi:i<l.length)(x:Nat×Nat×Nat):
  ∃y,cy (run M) K cP.l0 (K0 l n t w i x)=some (.normal,K0 l n t w (i+1) y):=by
 obtain⟨v,u,x⟩:=x;have e5:=cz (i:=i) (by omega);have h1:=je.al k l[i] (nN n i) t w;have hlen:((j9 l n t w i).map aF).length=l.length:=by simp[rY]
 have hi2:i<((j9 l n t w i).map aF).length:=by omega
 have hat:((j9 l n t w i).map aF)[i]'hi2=aF l[i]:=by rw[fb,Ao]
 have hat2:((j9 l n t w i).map aF)[i]? =some (aF l[i]):=by rw[bW hi2,hat]
 have hset:(j9 l n t w (i+1)).map aF=((j9 l n t w i).map aF).set i (aF (oN n t w i l[i])):=by rw[wD _ _ _ _ _ hi,fR]
 have hb:=vF n i;have hbit:ud .i64 (n.fdiv ((2^i:Nat):Int)) 1=nN n i:=Dy _;have hmin:Min.min i 64=i:=by omega
 simp only[K0,hset,oN,aH];generalize (j9 l n t w i).map aF=rr at*;have hbit2:ud .i64 (n.fdiv (2^i)) 1=nN n i:=by rw[←hbit];norm_cast
 have hii:(i:Int)<3:=by omega
 have h3:i<3:=by omega
 have hng:¬(i:Int)<0:=by omega
 simp only[aF] at h1 hat hat2;by_cases c:l[i].val=nN n i
 ·rw[if_pos c];have hself:rr.set i [I l[i].val,I l[i].time,I l[i].eD]=rr:=by
   apply List.ext_getElem?;intro j;rw[List.getElem?_set];split
   ·rename_i hj;subst hj;simp[hi2,hat]
   ·rfl
  rw[hself];simp (maxSteps:=9^9) [cP.l0,setAt,hl,hlen,hat,e5,hmin,hbit2,hii,h3,hng,c,IntKind.bits]
 ·rw[if_neg c];simp (maxSteps:=9^9) [cP.l0,setAt,hl,hlen,hat,e5,hmin,hbit2,hii,h3,hng,c,h1,aF,IntKind.bits]
end Mx
namespace Mx
open Go
theorem uA{t w u x:Int}:ld t w u x=true↔u<t∨t=u∧x<w:=by
 simp[ld]
theorem yK{t w u x:Int}:ld t w u x=false↔¬(u<t∨t=u∧x<w):=by
 rw[←uA];simp
theorem s_:∀a,jD a a=false
 |[]=>rfl
 |x::a=>by simp[jD,s_ a]
theorem yZ:∀a b,jD a b=true∧jD b a=false∨jD a b=false∧jD b a=true∨jD a b=false∧jD b a=false∧a=b
 |[],[]=>by simp[jD]
 |[],_::_=>by simp[jD]
 |_::_,[]=>by simp[jD]
 |x::a,y::b=>by
  have ih:=yZ a b;simp only[jD];by_cases h1:x<y
  ·have h2:¬y<x:=by rw[UInt8.lt_iff_toNat_lt] at*;omega
   have h3:(y==x)=false:=by
    rw[beq_eq_false_iff_ne];rintro rfl;exact h2 h1
   left;simp[h1,h2,h3]
  ·by_cases h2:y<x
   ·have h3:(x==y)=false:=by
     rw[beq_eq_false_iff_ne];rintro rfl;exact h1 h2
    right;left;simp[h1,h2,h3]
   ·have h3:x=y:=by
     rw[←UInt8.toNat_inj];rw[UInt8.lt_iff_toNat_lt] at*;omega
    subst h3;simpa [h1] using ih
end Mx
namespace Mx
open Go
variable {M:Nat→Option Body}
theorem ij.al(h:ij.k M)(a b:mB):run M 485 [.a (aF a),.a (aF b)] []=some (.a (aF (pA a b)),[]):=by
 obtain⟨h0,k1⟩:=h;have h1:=gm.al k1 b.time b.eD a.time a.eD;have h2:=gm.al k1 a.time a.eD b.time b.eD;refine ao (b:=ij.m) h0 ⟨0, ?_⟩;unfold pA;generalize ld b.time b.eD a.time a.eD=x at*;generalize ld a.time a.eD b.time b.eD=y at*;by_cases c:a.val<b.val
 ·cases x<;>cases y<;>simp (maxSteps:=9^9) [a8,ij.m,ij.b,aa,setAt,h1,h2,aF,c]
 ·cases x<;>cases y<;>simp (maxSteps:=9^9) [a8,ij.m,ij.b,aa,setAt,h1,h2,aF,c]
theorem zI(a b:mB):pA a b=if ld a.time a.eD b.time b.eD=true∨(a.time=b.time∧a.eD=b.eD)∧b.val≤a.val then a else b:=by
 unfold pA;simp only[uA,yK];by_cases h1:a.time<b.time∨b.time=a.time∧a.eD<b.eD
 ·rw[if_pos (.inl h1),if_neg (by omega)]
 ·by_cases h2:b.time<a.time∨a.time=b.time∧b.eD<a.eD
  ·rw[if_neg (by omega),if_pos (.inl h2)]
  ·by_cases h3:a.val<b.val
   ·rw[if_pos (.inr ⟨h2,h3⟩),if_neg (by omega)]
   ·rw[if_neg (by omega),if_pos (by omega)]
theorem gI.al(h:gI.k M)(a b:mB):run M 488 [.a (aF a),.a (aF b)] []=some (.a (aF (pA a b)),[]):=by
 obtain⟨h0,k1⟩:=h;have h2:=iq.al k1 a.time a.eD b.time b.eD;refine ao (b:=gI.m) h0 ⟨0, ?_⟩;rw[zI];obtain⟨av,t,w⟩:=a;obtain⟨bv,u,x⟩:=b;simp only at*;generalize ld t w u x=y at*;by_cases c2:t=u
 ·subst c2;by_cases c3:w=x
  ·subst c3;by_cases c:bv≤av<;>cases y<;>simp (maxSteps:=9^9) [a8,gI.m,gI.b,aa,setAt,h2,aF,c]
  ·cases y<;>simp (maxSteps:=9^9) [a8,gI.m,gI.b,aa,setAt,h2,aF,c3]
 ·cases y<;>simp (maxSteps:=9^9) [a8,gI.m,gI.b,aa,setAt,h2,aF,c2]
theorem pG(a b:List mB):(fz a b).length=Min.min a.length b.length:=by simp[fz]
def G8(a b:List mB)(i:Nat)(x:Nat×Nat):St:={t:=[(0,.c (jE a)),(1,.c (jE b)),(5,.c (.row 7 x.1 0 i)),(6,.c (I i))],o:=[(7,⟨x.1,3,true,false,((fz a b).take i).map aF⟩)],n:=x.2}
def Jx(a b:List mB)(x:Nat×Nat):St:={t:=[(0,.c (jE a)),(1,.c (jE b)),(5,.c (.row 7 x.1 0 (Min.min a.length b.length))),(6,.c (I (Min.min a.length b.length:Nat))),(17,.c (.bool false))],o:=[(7,⟨x.1,3,true,false,((fz a b).take (Min.min a.length b.length)).map aF⟩)],n:=x.2}
theorem ep.al(h:ep.k M)(a b:List mB)(ha:a.length≤1048576)(hb:b.length≤1048576):run M 470 [.c (jE a),.c (jE b)] []=some (.c (.sl true 3 ((fz a b).map aF)),[]):=by
 obtain⟨h0,k1⟩:=h;refine ao (b:=ep.m) h0 ⟨Min.min a.length b.length+1, ?_⟩;have hlen:=pG a b;obtain⟨g,hr⟩:=lh (f:=cy (run M) (Min.min a.length b.length+1) ep.l0) (Min.min a.length b.length) (G8 a b) 0 (Jx a b)
  (fun i hi x=>by
   obtain⟨v,n⟩:=x;have hia:i<a.length:=by omega
   have hib:i<b.length:=by omega
   have h1:=ij.al k1 a[i] b[i];have e5:=cz (i:=i) (by omega);have e6:i+1≤4294967296:=by omega
   have e7:(((fz a b).take i).map aF).length=i:=by simp[hlen];omega
   have e8:(((fz a b).take (i+1)).map aF)=((fz a b).take i).map aF++[aF (pA a[i] b[i])]:=by
    rw[il _ _ (by rw[hlen];exact hi),cU];simp[fz]
   simp only[G8,e8,aH];generalize ((fz a b).take i).map aF=rr at*;simp only[aF] at h1;simp (maxSteps:=9^9) [ep.l0,aa,jE,hia,hib,h1,e5,e6,e7,aF,ab])
  (fun x=>by
   obtain⟨v,n⟩:=x;simp only[aH];by_cases c:a.length≤b.length
   ·have e:Min.min a.length b.length=a.length:=by omega
    simp only[G8,Jx,e];simp (maxSteps:=9^9) [ep.l0,aa,jE]
   ·have e:Min.min a.length b.length=b.length:=by omega
    have c2:b.length<a.length:=by omega
    simp only[G8,Jx,e];simp (maxSteps:=9^9) [ep.l0,aa,jE,c2])
 have hr0:=hr (2000016,2000064);obtain⟨v,n⟩:=g (2000016,2000064);have e9:(fz a b).take (Min.min a.length b.length)=fz a b:=ab (by omega);have e10:((fz a b).map aF).length=Min.min a.length b.length:=by simp[hlen]
 simp only[G8,Jx,e9,List.take_zero,bJ] at hr0;generalize (fz a b).map aF=rr at*;generalize Min.min a.length b.length=k at*;simp at hr0;simp (maxSteps:=9^9) [a8,ep.m,ep.b,aa,hr0,e10,ab]
theorem dY.al(h:dY.k M)(a b:List mB)(ha:a.length≤1048576)(hb:b.length≤1048576):run M 472 [.c (jE a),.c (jE b)] []=some (.c (.sl true 3 ((fz a b).map aF)),[]):=by
 obtain⟨h0,k1⟩:=h;refine ao (b:=dY.m) h0 ⟨Min.min a.length b.length+1, ?_⟩;have hlen:=pG a b;obtain⟨g,hr⟩:=lh (f:=cy (run M) (Min.min a.length b.length+1) dY.l0) (Min.min a.length b.length) (G8 a b) 0 (Jx a b)
  (fun i hi x=>by
   obtain⟨v,n⟩:=x;have hia:i<a.length:=by omega
   have hib:i<b.length:=by omega
   have h1:=gI.al k1 a[i] b[i];have e5:=cz (i:=i) (by omega);have e6:i+1≤4294967296:=by omega
   have e7:(((fz a b).take i).map aF).length=i:=by simp[hlen];omega
   have e8:(((fz a b).take (i+1)).map aF)=((fz a b).take i).map aF++[aF (pA a[i] b[i])]:=by
    rw[il _ _ (by rw[hlen];exact hi),cU];simp[fz]
   simp only[G8,e8,aH];generalize ((fz a b).take i).map aF=rr at*;simp only[aF] at h1;simp (maxSteps:=9^9) [dY.l0,aa,jE,hia,hib,h1,e5,e6,e7,aF,ab])
  (fun x=>by
   obtain⟨v,n⟩:=x;simp only[aH];by_cases c:a.length≤b.length
   ·have e:Min.min a.length b.length=a.length:=by omega
    simp only[G8,Jx,e];simp (maxSteps:=9^9) [dY.l0,aa,jE]
   ·have e:Min.min a.length b.length=b.length:=by omega
    have c2:b.length<a.length:=by omega
    simp only[G8,Jx,e];simp (maxSteps:=9^9) [dY.l0,aa,jE,c2])
 have hr0:=hr (2000016,2000064);obtain⟨v,n⟩:=g (2000016,2000064);have e9:(fz a b).take (Min.min a.length b.length)=fz a b:=ab (by omega);have e10:((fz a b).map aF).length=Min.min a.length b.length:=by simp[hlen]
 simp only[G8,Jx,e9,List.take_zero,bJ] at hr0;generalize (fz a b).map aF=rr at*;generalize Min.min a.length b.length=k at*;simp at hr0;simp (maxSteps:=9^9) [a8,dY.m,dY.b,aa,hr0,e10,ab]
theorem uM(a b:List UInt8):(!jD b a&& !decide (b=a))=jD a b:=by
 rcases yZ a b with⟨h1,h2⟩|⟨h1,h2⟩|⟨h1,h2,h3⟩
 ·have:¬b=a:=by rintro rfl;rw[s_] at h1;cases h1
  simp[h1,h2,this]
 ·simp[h1,h2]
 ·simp[h3,s_]
theorem rC(a b:bp):(iF a b).flags.length≤a.flags.length:=by
 unfold iF;split
 ·simp only[pG];omega
 ·exact Nat.le_refl _
theorem fH.al(h:fH.k M)(a b:bp)(ha:a.flags.length≤1048576)(hb:b.flags.length≤1048576):run M 452 [.a (ah a),.a (ah b)] []=some (.a (iW (iF a b)),[]):=by
 obtain⟨h0,k1,k2⟩:=h;have h1:=eQ.al k1 a ha;have h2:=ep.al k2 a.flags b.flags ha hb;refine ao (b:=fH.m) h0 ⟨0, ?_⟩;unfold iF;by_cases c:a.gid=b.gid
 ·rw[if_pos c];simp only[ah,iW,jE,Ki] at*;have e1:((fz a.flags b.flags).map aF).length=(fz a.flags b.flags).length:=by simp
  generalize (fz a.flags b.flags).map aF=rf at*;generalize a.flags.map aF=ra at*;generalize b.flags.map aF=rb at*;have e2:Max.max a.uid b.uid=if b.uid>a.uid then b.uid else a.uid:=by split<;>omega
  rw[e2];by_cases c2:a.uid<b.uid
  ·cases c3:jD a.text b.text<;>simp (maxSteps:=9^9) [a8,fH.m,fH.b,aa,setAt,h2,c,c2,c3,e1,max2,ab]
  ·cases c3:jD a.text b.text<;>simp (maxSteps:=9^9) [a8,fH.m,fH.b,aa,setAt,h2,c,c2,c3,e1,max2,ab]
 ·rw[if_neg c];have e1:(a.flags.map aF).length=a.flags.length:=by simp
  simp only[ah,iW,jE] at*;generalize a.flags.map aF=ra at*;generalize b.flags.map aF=rb at*;simp (maxSteps:=9^9) [a8,fH.m,fH.b,aa,setAt,h1,c,e1,ab]
theorem fG.al(h:fG.k M)(a b:bp)(ha:a.flags.length≤1048576)(hb:b.flags.length≤1048576):run M 461 [.a (ah a),.a (ah b)] []=some (.a (iW (iF a b)),[]):=by
 obtain⟨h0,k1,k2⟩:=h;have h1:=fU.al k1 a ha;have h2:=dY.al k2 a.flags b.flags ha hb;refine ao (b:=fG.m) h0 ⟨0, ?_⟩;unfold iF;by_cases c:a.gid=b.gid
 ·rw[if_pos c];simp only[ah,iW,jE,Ki] at*;have e1:((fz a.flags b.flags).map aF).length=(fz a.flags b.flags).length:=by simp
  have e3:(a.flags.map aF).length=a.flags.length:=by simp
  generalize (fz a.flags b.flags).map aF=rf at*;generalize a.flags.map aF=ra at*;generalize b.flags.map aF=rb at*;have e2:Max.max a.uid b.uid=if a.uid<b.uid then b.uid else a.uid:=by split<;>omega
  rw[e2];rw[c] at h1;have e4:=uM a.text b.text;by_cases c2:a.uid<b.uid
  ·cases c3:jD a.text b.text<;>simp (maxSteps:=9^9) [a8,fG.m,fG.b,aa,setAt,h1,h2,c,c2,c3,e1,e3,e4,ab]
  ·cases c3:jD a.text b.text<;>simp (maxSteps:=9^9) [a8,fG.m,fG.b,aa,setAt,h1,h2,c,c2,c3,e1,e3,e4,ab]
 ·rw[if_neg c];have e1:(a.flags.map aF).length=a.flags.length:=by simp
  simp only[ah,iW,jE] at*;generalize a.flags.map aF=ra at*;generalize b.flags.map aF=rb at*;simp (maxSteps:=9^9) [a8,fG.m,fG.b,aa,setAt,h1,c,e1,ab]
end Mx
namespace Mx
open Go
theorem kC{σ:Type}{f:St→Option (Out×St)}(S:σ→St)(Inv:σ→Prop)(μ:σ→Nat)(Post:Out×St→Prop)
  (h:∀s,Inv s→(∃s',f (S s)=some (.normal,S s')∧Inv s'∧μ s'<μ s)∨(∃r,f (S s)=some r∧r.1≠.normal∧Post r)):
  ∀m s,Inv s→μ s<m→∃r,fi f m (S s)=some r∧Post r
 |0,s,_,hm=>by omega
 |m+1,s,hi,hm=>by
  rcases h s hi with⟨s',h1,h2,h3⟩|⟨⟨o,r⟩,h1,h2,h3⟩
  ·obtain⟨r,q1,q2⟩:=kC S Inv μ Post h m s' h2 (by omega);exact⟨r,by simp only[fi,h1];exact q1,q2⟩
  ·refine⟨(o,r), ?_,h3⟩;simp only[fi,h1];cases o with
   |normal=>exact(h2 rfl).elim
   |_=>rfl
end Mx
namespace Mx
open Go
variable {M:Nat→Option Body}
def rN(x y:Int):Int:=if x<y then -1 else if y<x then 1 else 0
theorem tZ{x y:Int}:rN x y<0↔x<y:=by unfold rN;split<;>(try split)<;>omega
theorem fp.al(h:fp.k M)(x y:Int):run M 457 [.c (I x),.c (I y)] []=some (.c (I (rN x y)),[]):=by
 refine ao (b:=fp.m) h ⟨0, ?_⟩;unfold rN;by_cases c:x<y
 ·simp (maxSteps:=9^9) [a8,fp.m,fp.b,aa,c]
 ·by_cases c2:y<x
  ·simp (maxSteps:=9^9) [a8,fp.m,fp.b,aa,c,c2]
  ·simp (maxSteps:=9^9) [a8,fp.m,fp.b,aa,c,c2]
theorem gY.al(h:gY.k M)(x y:bp):run M 456 [.a (ah x),.a (ah y)] []=some (.c (I (rN x.gid y.gid)),[]):=by
 have h1:=fp.al h.2 x.gid y.gid;refine ao (b:=gY.m) h.1 ⟨0, ?_⟩;simp (maxSteps:=9^9) [a8,gY.m,gY.b,aa,h1,ah]
theorem gX.al(h:gX.k M)(x y:bp):run M 458 [.a (ah x),.a (ah y)] []=some (.c (I (rN x.uid y.uid)),[]):=by
 have h1:=fp.al h.2 x.uid y.uid;refine ao (b:=gX.m) h.1 ⟨0, ?_⟩;simp (maxSteps:=9^9) [a8,gX.m,gX.b,aa,h1,ah]
theorem xf{α:Type}{k:α→Int}(P:List α)(y x:α)(Q:List α)(h:k x<k y):iG k (P++[y]) x++Q=iG k P x++(y::Q):=by
 have h1:¬k y≤k x:=by omega
 simp[iG,List.filter_append,h,h1]
theorem xe{α:Type}{k:α→Int}(P:List α)(x:α)(h:∀y∈P,k y≤k x):iG k P x=P++[x]:=by
 have h1:P.filter (fun z=>decide (k z≤k x))=P:=List.filter_eq_self.2 fun y hy=>by simpa using h y hy
 have h2:P.filter (fun z=>decide (k x<k z))=[]:=List.filter_eq_nil_iff.2 fun y hy=>by have:=h y hy;simp;omega
 simp[iG,h1,h2]
structure MU where
 j:Nat
 D:List bp
 n:Nat
def Li(f N i:Nat)(Z:List (List T))(s:MU):St:={t:=[(0,.c (.row 0 0 0 N)),(1,.c (I 0)),(2,.c (I N)),(3,.c (.fn f [])),(8,.c (I i)),(9,.c (I s.j))],o:=[(0,⟨0,4,true,false,s.D.map ah++Z⟩)],n:=s.n}
def No(f N i:Nat)(Z:List (List T))(s:MU):St:={t:=[(0,.c (.row 0 0 0 N)),(1,.c (I 0)),(2,.c (I N)),(3,.c (.fn f [])),(8,.c (I i)),(9,.c (I s.j)),(34,.c (.bool false))],o:=[(0,⟨0,4,true,false,s.D.map ah++Z⟩)],n:=s.n}
structure NJ (k:bp→Int) (N:Nat) (R:List bp) (s:MU):Prop where
 len:s.D.length=N
 lt:s.j<N
 e:∃P x Q,P.length=s.j∧s.D=P++x::Q∧n7 k P∧iG k P x++Q=R
theorem zD{α β:Type}{f:α→β}{P Q:List α}{x:α}{l:List β}(h:l=(P++x::Q).map f)(i:Nat)(hi:i=P.length):∀hh,l[i]'hh=f x:=by
 subst h;subst hi;intro hh;simp
theorem Iu{f:Nat}{g u g' u':Int}{fl fl':List (List T)}{tx tx':List UInt8}{c:Int}
  (hcmp:run M f [.a [I g,I u,.sl false 3 fl,S tx],.a [I g',I u',.sl false 3 fl',S tx']] []=some (.c (I c),[])) (hc:c<0) (m N i j p:Nat) (hN:N≤1048576) (rr:List (List T)) (e1:IntKind.i64.wrap ((j:Int)-1)=(p:Int)) (hj:j<N) (hp:p<N) (h0:0<j) (e2:j<rr.length) (e3:p<rr.length) (hne:¬j=p) (hne':¬p=j)
  (a1:∀hh,rr[p]'hh=[I g',I u',.sl false 3 fl',S tx']) (a2:∀hh,rr[j]'hh=[I g,I u,.sl false 3 fl,S tx]) (n:Nat):
  ∃n',cy (run M) m au.l1 {t:=[(0,.c (.row 0 0 0 N)),(1,.c (I 0)),(2,.c (I N)),(3,.c (.fn f [])),(8,.c (I i)),(9,.c (I j))],o:=[(0,⟨0,4,true,false,rr⟩)],n:=n}=
   some (.normal,{t:=[(0,.c (.row 0 0 0 N)),(1,.c (I 0)),(2,.c (I N)),(3,.c (.fn f [])),(8,.c (I i)),(9,.c (I p))],o:=[(0,⟨0,4,true,false,(rr.set j [I g',I u',.sl false 3 fl',S tx']).set p [I g,I u,.sl false 3 fl,S tx]⟩)],n:=n'}):=by
 simp (maxSteps:=9^9) [au.l1,aa,setAt,hcmp,hc,a1,a2,e1,e2,e3,hj,hp,h0,hne]
theorem Iv{f:Nat}{g u g' u':Int}{fl fl':List (List T)}{tx tx':List UInt8}{c:Int}
  (hcmp:run M f [.a [I g,I u,.sl false 3 fl,S tx],.a [I g',I u',.sl false 3 fl',S tx']] []=some (.c (I c),[])) (hc:¬c<0) (m N i j p:Nat) (hN:N≤1048576) (rr:List (List T)) (e1:IntKind.i64.wrap ((j:Int)-1)=(p:Int)) (hj:j<N) (hp:p<N) (h0:0<j) (e2:j<rr.length) (e3:p<rr.length) (hne:¬j=p) (hne':¬p=j)
  (a1:∀hh,rr[p]'hh=[I g',I u',.sl false 3 fl',S tx']) (a2:∀hh,rr[j]'hh=[I g,I u,.sl false 3 fl,S tx]) (n:Nat):
  ∃n',cy (run M) m au.l1 {t:=[(0,.c (.row 0 0 0 N)),(1,.c (I 0)),(2,.c (I N)),(3,.c (.fn f [])),(8,.c (I i)),(9,.c (I j))],o:=[(0,⟨0,4,true,false,rr⟩)],n:=n}=
   some (.exit 2,{t:=[(0,.c (.row 0 0 0 N)),(1,.c (I 0)),(2,.c (I N)),(3,.c (.fn f [])),(8,.c (I i)),(9,.c (I j)),(34,.c (.bool false))],o:=[(0,⟨0,4,true,false,rr⟩)],n:=n'}):=by
 simp (maxSteps:=9^9) [au.l1,aa,hcmp,hc,a1,a2,e1,e2,e3,hj,hp,h0]
theorem Kw{f:Nat}(m N i:Nat)(rr:List (List T))(n:Nat):
  ∃n',cy (run M) m au.l1 {t:=[(0,.c (.row 0 0 0 N)),(1,.c (I 0)),(2,.c (I N)),(3,.c (.fn f [])),(8,.c (I i)),(9,.c (I 0))],o:=[(0,⟨0,4,true,false,rr⟩)],n:=n}=
   some (.exit 2,{t:=[(0,.c (.row 0 0 0 N)),(1,.c (I 0)),(2,.c (I N)),(3,.c (.fn f [])),(8,.c (I i)),(9,.c (I 0)),(34,.c (.bool false))],o:=[(0,⟨0,4,true,false,rr⟩)],n:=n'}):=by
 simp (maxSteps:=9^9) [au.l1,aa]
theorem An{α β:Type}(e:α→β)(P:List α)(x y:α)(Q:List α):(((P++y::x::Q).map e).set (P.length+1) (e y)).set P.length (e x)=(P++x::y::Q).map e:=by
 apply List.ext_getElem
 ·simp
 ·intro q h1 h2;simp only[List.getElem_set,cU,bB,List.getElem_append,gD];by_cases q1:P.length=q
  ·subst q1;simp
  ·by_cases q2:P.length+1=q
   ·subst q2;have q4:¬P.length+1<P.length:=by omega
    have q5:P.length+1-P.length=1:=by omega
    simp[q4,q5]
   ·by_cases q3:q<P.length
    ·simp[q1,q2,q3]
    ·obtain⟨w,rfl⟩:∃w,q=P.length+2+w:=⟨q-P.length-2,by omega⟩
     have:P.length+2+w-P.length=w+2:=by omega
     simp[q1,q2,q3,this]
theorem It{f:Nat}{k:bp→Int}(hf:∀x y:bp,run M f [.a (ah x),.a (ah y)] []=some (.c (I (rN (k x) (k y))),[]))(m N i:Nat)(hN:N≤1048576)(Z:List (List T))(R:List bp)(s:MU)(hs:NJ k N R s):
  (∃s',cy (run M) m au.l1 (Li f N i Z s)=some (.normal,Li f N i Z s')∧NJ k N R s'∧s'.j<s.j)∨
   (∃r,cy (run M) m au.l1 (Li f N i Z s)=some r∧r.1≠.normal∧∃s',r=(.exit 2,No f N i Z s')∧s'.D=R):=by
 obtain⟨j,D,n⟩:=s;obtain⟨hl,hj,P,x,Q,hP,hD,hsort,hR⟩:=hs;simp only at hl hj hP hD;rcases List.eq_nil_or_concat P with rfl|⟨P',y,rfl⟩
 ·right;have hj0:j=0:=by simpa using hP.symm
  subst hj0;obtain⟨n',hh⟩:=Kw (M:=M) (f:=f) m N i (D.map ah++Z) n;exact⟨_,hh,by simp,⟨0,D,n'⟩,rfl,by rw[←hR,hD];simp[iG]⟩
 ·rw[List.concat_eq_append] at hP hD hsort hR;have hlen:j=P'.length+1:=by simpa using hP.symm
  have hDm:D.map ah=(P'++y::(x::Q)).map ah:=by rw[hD];simp
  have hDm2:D.map ah=((P'++[y])++x::Q).map ah:=by rw[hD]
  have a1:∀hh,(D.map ah++Z)[P'.length]'hh=ah y:=by
   intro hh;rw[List.getElem_append_left (by simp;omega)];exact zD hDm P'.length rfl _
  have a2:∀hh,(D.map ah++Z)[j]'hh=ah x:=by
   intro hh;rw[List.getElem_append_left (by simp;omega)];exact zD hDm2 j (by simp[hlen]) _
  have hcmp:=hf x y;have e1:IntKind.i64.wrap ((j:Int)-1)=(P'.length:Int):=by rw[wrap_i64 (by omega) (by omega)];omega
  by_cases c:k x<k y
  ·left;obtain⟨n',hh⟩:=Iu hcmp (tZ.2 c) m N i j P'.length hN (D.map ah++Z) e1 hj (by omega) (by omega) (by simp;omega) (by simp;omega) (by omega) (by omega) a1 a2 n;refine⟨⟨P'.length,P'++x::(y::Q),n'⟩, ?_,⟨by simp only;rw[hD] at hl;simp at hl ⊢;omega,by simp only;omega,P',x,y::Q,rfl,rfl,(List.pairwise_append.1 hsort).1,by rw[←hR,xf _ _ _ _ c]⟩,by simp only;omega⟩;have hs:=An ah P' x y Q;simp only[Li];rw[←hs,←hDm,←hlen];rw[List.set_append_left _ _ (by simp;omega),List.set_append_left _ _ (by simp;omega)] at hh;exact hh
  ·right;obtain⟨n',hh⟩:=Iv hcmp (fun q=>c (tZ.1 q)) m N i j P'.length hN (D.map ah++Z) e1 hj (by omega) (by omega) (by simp;omega) (by simp;omega) (by omega) (by omega) a1 a2 n;refine⟨_,hh,by simp,⟨j,D,n'⟩,rfl, ?_⟩;simp only;rw[hD,←hR,xe]
   ·simp
   ·intro z hz;rcases List.mem_append.1 hz with q|q
    ·have:=(List.pairwise_append.1 hsort).2.2 z q y (by simp);omega
    ·simp at q;subst q;omega
def mh(k:bp→Int)(l:List bp)(i:Nat):List bp:=fv k (l.take i)++l.drop i
theorem BR(k:bp→Int)(l:List bp)(i:Nat):(mh k l i).length=l.length:=by
 simp only[mh,aC,iR,jn,List.length_drop];omega
structure NI where
 i:Nat
 n:Nat
def Kv(f:Nat)(Z:List (List T))(k:bp→Int)(l:List bp)(s:NI):St:={t:=[(0,.c (.row 0 0 0 l.length)),(1,.c (I 0)),(2,.c (I l.length)),(3,.c (.fn f [])),(8,.c (I s.i))],o:=[(0,⟨0,4,true,false,(mh k l s.i).map ah++Z⟩)],n:=s.n}
theorem Is{f:Nat}{k:bp→Int}(hf:∀x y:bp,run M f [.a (ah x),.a (ah y)] []=some (.c (I (rN (k x) (k y))),[]))(m:Nat)(Z:List (List T))(l:List bp)(hN:l.length≤1048576)(hm:l.length<m)(s:NI)(hs:1≤s.i∧s.i<l.length):
  ∃n',cy (run M) m au.l0 (Kv f Z k l s)=some (.normal,Kv f Z k l ⟨s.i+1,n'⟩):=by
 obtain⟨i,n⟩:=s;obtain⟨h1,h2⟩:=hs;simp only at h1 h2;have htk:l.take (i+1)=l.take i++[l[i]]:=il l i h2;have hdr:l.drop i=l[i]::l.drop (i+1):=bC h2;have hR:iG k (fv k (l.take i)) l[i]++l.drop (i+1)=mh k l (i+1):=by
  simp only[mh,htk];congr 1;unfold fv;rw[List.foldl_append];rfl
 obtain⟨r,hr,⟨⟨j,D,n'⟩,rfl,hD⟩⟩:=kC (f:=cy (run M) m au.l1) (Li f l.length i Z) (NJ k l.length (mh k l (i+1))) (fun s=>s.j)
  (fun r=>∃s',r=(.exit 2,No f l.length i Z s')∧s'.D=mh k l (i+1)) (fun s hs=>It hf m l.length i hN Z _ s hs) m ⟨i,mh k l i,n+48+32⟩
  ⟨BR k l i,h2,fv k (l.take i),l[i],l.drop (i+1),by rw[iR];simp;omega,by simp only[mh,hdr],ow _,hR⟩ (by simp only;omega)
 simp only at hD;subst hD;simp only[Li,No] at hr;have e5:=cz (i:=i) (by omega);simp only[Kv];generalize (mh k l i).map ah++Z=r0 at*;generalize (mh k l (i+1)).map ah++Z=r1 at*;simp (maxSteps:=9^9) [au.l0,hr,h2,e5]
def rB(l:List bp)(Z:List (List T)):Nat×Ob:=(0,⟨0,4,true,false,l.map ah++Z⟩)
theorem BS(k:bp→Int)(l:List bp):mh k l l.length=fv k l:=by simp[mh]
theorem BQ(k:bp→Int)(l:List bp):mh k l 1=l:=by
 cases l with
 |nil=>rfl
 |cons x l=>simp[mh,fv,iG]
def MK(f:Nat)(Z:List (List T))(k:bp→Int)(l:List bp)(s:NI):St:={t:=[(0,.c (.row 0 0 0 l.length)),(1,.c (I 0)),(2,.c (I l.length)),(3,.c (.fn f [])),(8,.c (I s.i)),(14,.c (.bool false))],o:=[(0,⟨0,4,true,false,(mh k l s.i).map ah++Z⟩)],n:=s.n}
theorem Ku{f:Nat}{k:bp→Int}(m:Nat)(Z:List (List T))(l:List bp)(i n:Nat)(h:l.length≤i):∃n',cy (run M) m au.l0 (Kv f Z k l ⟨i,n⟩)=some (.exit 0,MK f Z k l ⟨i,n'⟩):=by
 have h2:¬i<l.length:=by omega
 simp only[Kv,MK];generalize (mh k l i).map ah++Z=r0 at*;simp (maxSteps:=9^9) [au.l0,h2]
theorem au.al(h:au.k M){f:Nat}{k:bp→Int}(hf:∀x y:bp,run M f [.a (ah x),.a (ah y)] []=some (.c (I (rN (k x) (k y))),[]))
  (l:List bp) (Z:List (List T)) (hN:l.length≤1048576):run M 486 [.c (.row 0 0 0 l.length),.c (I 0),.c (I l.length),.c (.fn f [])] [rB l Z]=some (.lL [],[rB (fv k l) Z]):=by
 refine ao (b:=au.m) h ⟨l.length+1, ?_⟩;obtain⟨r,hr,⟨⟨i,n'⟩,rfl,hi⟩⟩:=kC (f:=cy (run M) (l.length+1) au.l0) (Kv f Z k l) (fun s=>1≤s.i∧(s.i≤l.length∨s.i=1)) (fun s=>l.length-s.i)
  (fun r=>∃s',r=(.exit 0,MK f Z k l s')∧(s'.i=l.length∨l.length=0∧s'.i=1))
  (fun s hs=>by
   obtain⟨i,n⟩:=s;by_cases c:i<l.length
   ·left;obtain⟨n',hh⟩:=Is hf (l.length+1) Z l hN (by omega) ⟨i,n⟩ ⟨hs.1,c⟩;exact⟨_,hh,⟨by simp only;omega,by simp only;omega⟩,by simp only;omega⟩
   ·right;obtain⟨n',hh⟩:=Ku (M:=M) (f:=f) (k:=k) (l.length+1) Z l i n (by omega);simp only at hs;exact⟨_,hh,by simp,_,rfl,by simp only;omega⟩) (l.length+1) ⟨1,2000048⟩ ⟨by simp,by simp⟩ (by simp only;omega)
 have e1:mh k l i=fv k l:=by
  rcases hi with hi|⟨h0,hi⟩
  ·simp only at hi;rw[hi,BS]
  ·have:l=[]:=ba h0;subst this;simp[mh,fv]
 simp only[Kv,MK,e1,BQ] at hr;have e2:IntKind.i64.wrap 1=1:=by decide
 have e3:((1:Nat):Int)=1:=rfl;rw[e3] at hr;simp only[rB];generalize l.map ah++Z=r0 at*;generalize (fv k l).map ah++Z=r1 at*;simp (maxSteps:=9^9) [a8,au.m,au.b,aa,hr,e2]
theorem au.rest(h:au.k M){f:Nat}(l:List bp)(Z:List (List T))(hN:l.length≤1048576):
  run M 486 [.c (.row 0 0 0 l.length),.c (I l.length),.c (I l.length),.c (.fn f [])] [rB l Z]=some (.lL [],[rB l Z]):=by
 refine ao (b:=au.m) h ⟨1, ?_⟩;have e2:IntKind.i64.wrap ((l.length:Int)+1)=(l.length:Int)+1:=wrap_i64 (by omega) (by omega);have e3:¬(l.length:Int)+1<l.length:=by omega
 simp only[rB];have e4:l.length≤(l.map ah++Z).length:=by simp
 generalize l.map ah++Z=r0 at*;simp (maxSteps:=9^9) [a8,au.m,au.b,aa,fi,au.l0,e2,e3]
theorem aR.al(h:aR.k M){f:Nat}{k:bp→Int}(hf:∀x y:bp,run M f [.a (ah x),.a (ah y)] []=some (.c (I (rN (k x) (k y))),[]))
  (l:List bp) (Z:List (List T)) (hN:l.length≤20):run M 471 [.c (.row 0 0 0 l.length),.c (I l.length),.c (.fn f [])] [rB l Z]=some (.lL [],[rB (fv k l) Z]):=by
 obtain⟨h0,k1⟩:=h;have h1:=au.al k1 hf l Z (by omega);have h2:=au.rest k1 (f:=f) (fv k l) Z (by rw[iR];omega);rw[iR] at h2;refine ao (b:=aR.m) h0 ⟨2, ?_⟩;have e1:l.length≤(l.map ah++Z).length:=by simp
 have e2:l.length≤((fv k l).map ah++Z).length:=by simp[iR]
 simp only[rB] at h1 h2 ⊢;generalize l.map ah++Z=r0 at*;generalize (fv k l).map ah++Z=r1 at*;by_cases c:l.length=20
 ·generalize l.length=N at*;subst c;simp only[aM] at h1 h2;have w1:IntKind.i64.wrap 40=40:=by decide
  simp (maxSteps:=9^9) [a8,aR.m,aR.b,aa,h1,h2,w1,fi,aR.l0,aR.l1,e1,e2]
 ·have c1:¬(20:Int)≤l.length:=by omega
  have c2:¬(20:Int)<l.length:=by omega
  have c3:¬20≤l.length:=by omega
  have c4:¬20<l.length:=by omega
  simp (maxSteps:=9^9) [a8,aR.m,aR.b,aa,h1,c1,c2,fi,aR.l0,aR.l1,e1]
theorem aZ.al(h:aZ.k M){f:Nat}{k:bp→Int}(hf:∀x y:bp,run M f [.a (ah x),.a (ah y)] []=some (.c (I (rN (k x) (k y))),[]))
  (l:List bp) (Z:List (List T)) (hN:l.length≤20):run M 455 [.c (.row 0 0 0 l.length),.c (.fn f [])] [rB l Z]=some (.lL [],[rB (fv k l) Z]):=by
 have h1:=aR.al h.2 hf l Z hN;refine ao (b:=aZ.m) h.1 ⟨0, ?_⟩;have e1:l.length≤(l.map ah++Z).length:=by simp
 simp only[rB] at h1 ⊢;generalize l.map ah++Z=r0 at*;generalize (fv k l).map ah++Z=r1 at*;simp (maxSteps:=9^9) [a8,aZ.m,aZ.b,aa,h1,e1]
end Mx

/-
  What more of the functions compute, each by a small evaluation; no condition beyond what each says.
-/
import Derived.Lib.IndexMore
import Derived.Lib.Split
import Derived.Lib.SlicesCompact
import Derived.Test.YtcihgbflbmhkbaaMxVwb
set_option maxHeartbeats 16000000
set_option linter.unusedSimpArgs false
set_option linter.unusedVariables false
namespace Mx
open Go
def bJ.l0:C:= .seq (.seq (.ay [Qm 6 5,Qf 7 2 2,Ql 8 7,Q 9 (.len (.t 8)),Q 10 (.bin .lss (.t 6) (.t 9))] [1,2,5,10] [2])
 (.cond (.t 10) (.skip) (.exit 0)))
 (.seq (.block 1 (.seq (.ay [Qf 13 2 2,Ql 14 13,Qm 15 5,Qa 16 7 14 15,Qf 17 0 16,Ql 18 17,Qm 19 1,Q 20 (.bin .eql (.t 18) (.t 19))] [1,2,5,20] [2])
 (.cond (.t 20) (.seq (.ay [Qm 21 5,Qm 4 21] [4] [])
 (.ret)) (.skip))))
 (.ay [Qm 11 5,Q 12 (.bin .add (.t 11) (kI 1)),Qm 5 12] [1,2,5] [2]))
def bJ.b:C:= .seq (.ay [Qv 2 0,Qi 4 0] [1,2] [2])
 (.seq (.seq (.ay [Qi 5 0] [1,2,5] [2])
 (.block 0 (.loop bJ.l0)))
 (.seq (.ay [Qi 4 (-1)] [4] [])
 (.ret)))
def bJ.m:Fn:={np:=2,body:=bJ.b,res:=[.tmp 4]}
def bJ.k(M:Nat→Option Body):Prop:=M 196=some (.code bJ.m)
def cw.l0:C:= .seq (.seq (.ay [Qm 16 5,Qf 17 2 2,Ql 18 17,Q 19 (.len (.t 18)),Q 20 (.bin .lss (.t 16) (.t 19))] [1,2,5,20] [2])
 (.cond (.t 20) (.skip) (.exit 0)))
 (.seq (.block 1 (.seq (.ay [Qf 23 2 2,Ql 24 23,Qm 25 5,Qa 26 7 24 25,QL 27 7 26,Qm 28 1,Q 29 (.call 91 [.t 27,.t 28] [] []),Q 30 (.bin .geq (.t 29) (kI 0)),Qm 31 30,Qg 32 (.cS 2 (.t 2)) 31 false,
   Qg 33 (.load false 1 (.t 32)) 31 false,Qg 34 (.mv (.t 5)) 31 false,Qg 35 (.eM 7 (.t 33) (.t 34)) 31 false,Qg 36 (.cS 6 (.t 35)) 31 false,
   Qg 37 (.load false 1 (.t 36)) 31 false,Qg 38 (.mv (.t 1)) 31 false,Qg 39 (.call 132 [.t 37,.t 38] [] []) 31 false,Q 40 (.pick (.t 31) (kB true) (.t 39))] [1,2,5,40] [2])
 (.cond (.t 40) (.seq (.ay [Qb 4 true] [4] [])
 (.ret)) (.skip))))
 (.ay [Qm 21 5,Q 22 (.bin .add (.t 21) (kI 1)),Qm 5 22] [1,2,5] [2]))
def cw.b:C:= .seq (.ay [Qv 2 0,Qb 4 false] [1,2] [2])
 (.seq (.seq (.ay [QL 6 4 2,Qm 7 1,Q 8 (.call 196 [.t 6,.t 7] [] []),Q 9 (.bin .geq (.t 8) (kI 0)),Qm 10 9,Qg 11 (.cS 3 (.t 2)) 10 false,Qg 12 (.load false 1 (.t 11)) 10 false,
   Qg 13 (.mv (.t 1)) 10 false,Qg 14 (.call 132 [.t 12,.t 13] [] []) 10 false,Q 15 (.pick (.t 10) (kB true) (.t 14))] [1,2,15] [2])
 (.cond (.t 15) (.seq (.ay [Qb 4 true] [4] [])
 (.ret)) (.skip)))
 (.seq (.seq (.ay [Qi 5 0] [1,2,5] [2])
 (.block 0 (.loop cw.l0)))
 (.seq (.ay [Qb 4 false] [4] [])
 (.ret))))
def cw.m:Fn:={np:=2,body:=cw.b,res:=[.tmp 4]}
def cw.k(M:Nat→Option Body):Prop:=M 300=some (.code cw.m)∧aX.k M∧bC.k M∧bJ.k M
def ca.b:C:= .seq (.ay [Qv 1 0,Q 2 (.alloc [.int .i64 0,.int .i64 0])] [1,2] [1,2])
 (.seq (.ay [Qf 3 1 1,Ql 4 3,Q 5 (.bin .add (.t 4) (kI 1)),Qf 6 0 1,Ql 7 6,Q 8 (.build [.int .i64 0,.int .i64 0] [(0,1,.t 5),(1,1,.t 7)]),Qs 2 2 8] [2] [2])
 (.ret))
def ca.m:Fn:={np:=1,body:=ca.b,res:=[.cell 2 true 2]}
def ca.k(M:Nat→Option Body):Prop:=M 301=some (.code ca.m)
def bz.l0:C:= .seq (.seq (.ay [Qm 8 4,Qf 9 2 1,Ql 10 9,Q 11 (.len (.t 10)),Q 12 (.bin .lss (.t 8) (.t 11))] [1,2,3,4,12] [1,2,3,6,24,26,29])
 (.cond (.t 12) (.skip) (.exit 0)))
 (.seq (.block 1 (.eD [Qf 15 2 3,Ql 16 15,Qf 17 2 1,Ql 18 17,Qm 19 4,Qa 20 7 18 19,QL 21 7 20,Q 22 (.call 180 [.t 21] [] []),
   Q 23 (.cE 7 1 [.int .i64 0,.str ⟨#[]⟩,.int .i64 0,.int .i64 0,.int .i64 0,.bp 4,.bp 1] [(0,.t 22)]),Q 24 (.app 7 96 (.t 16) (.t 23)),Qf 25 2 3,Qs 1 25 24] [[],[0],[],[2],[],[2,3,4],[2,3,4,5],[2,3,4,5,6],[2,3,4,5,6,7],lr 9,lr 10,lr 11] [1,2,3,4] [1,2,3,6,24,26,29]))
 (.ay [Qm 13 4,Q 14 (.bin .add (.t 13) (kI 1)),Qm 4 14] [1,2,3,4] [1,2,3,6,24,26,29]))
def bz.b:C:= .seq (.ay [Qv 1 0,Q 2 (.alloc [.int .i64 0,.int .i64 0,.bp 7,.bp 1])] [1,2] [1,2,6,24,26,29])
 (.seq (.ay [QL 5 4 1,Q 3 (.alloc [.int .i64 0,.int .i64 0,.bp 7,.bp 1]),Qs 4 3 5] [1,2,3] [1,2,3,6,24,26,29])
 (.seq (.ay [Q 6 (.cE 7 0 [.int .i64 0,.str ⟨#[]⟩,.int .i64 0,.int .i64 0,.int .i64 0,.bp 4,.bp 1] []),Qf 7 2 3,Qs 1 7 6] [1,2,3] [1,2,3,6,24,26,29])
 (.seq (.seq (.ay [Qi 4 0] [1,2,3,4] [1,2,3,6,24,26,29])
 (.block 0 (.loop bz.l0)))
 (.seq (.ay [Q 26 (.cE 1 0 [.int .i64 0] []),Qf 27 3 1,Ql 28 27,Q 29 (.app 1 8 (.t 26) (.t 28)),Qf 30 3 3,Qs 1 30 29] [2,3] [2,3,6,24,26,29])
 (.seq (.ay [QL 31 4 3,Qs 4 2 31] [2] [2,6,24,26,29])
 (.ret))))))
def bz.m:Fn:={np:=1,body:=bz.b,res:=[.cell 2 true 4]}
def bz.k(M:Nat→Option Body):Prop:=M 219=some (.code bz.m)∧bD.k M
def ba.l0:C:= .seq (.seq (.ay [Qm 37 10,Qf 38 2 3,Ql 39 38,Q 40 (.len (.t 39)),Q 41 (.bin .lss (.t 37) (.t 40))] [1,3,6,8,9,10,41] [3,6,8,9,30,61,67,93,12702,12703,12902,12903,20302,20303])
 (.cond (.t 41) (.skip) (.exit 0)))
 (.seq (.block 1 (.seq (.ay [Qf 44 2 3,Ql 45 44,Qm 46 10,Qa 47 7 45 46,Qf 48 0 47,Ql 49 48,Qm 50 1,Q 51 (.bin .lss (.t 49) (.t 50))] [1,3,6,8,9,10,51] [3,6,8,9,30,61,67,93,12702,12703,12902,12903,20302,20303])
 (.cond (.t 51) (.eD [Qf 52 2 8,Ql 53 52,Qf 54 2 3,Ql 55 54,Qm 56 10,Qa 57 7 55 56,QL 58 7 57,Q 59 (.call 180 [.t 58] [] []),
   Q 60 (.cE 7 1 [.int .i64 0,.str ⟨#[]⟩,.int .i64 0,.int .i64 0,.int .i64 0,.bp 4,.bp 1] [(0,.t 59)]),Q 61 (.app 7 96 (.t 53) (.t 60)),Qf 62 2 8,Qs 1 62 61] [[],[0],[],[2],[],[2,3,4],[2,3,4,5],[2,3,4,5,6],[2,3,4,5,6,7],lr 9,lr 10,lr 11] [1,3,6,8,9,10] [3,6,8,9,30,61,67,93,12702,12703,12902,12903,20302,20303]) (.skip))))
 (.ay [Qm 42 10,Q 43 (.bin .add (.t 42) (kI 1)),Qm 10 43] [1,3,6,8,9,10] [3,6,8,9,30,61,67,93,12702,12703,12902,12903,20302,20303]))
def ba.l1:C:= .seq (.seq (.ay [Qm 69 11,Qf 70 2 3,Ql 71 70,Q 72 (.len (.t 71)),Q 73 (.bin .lss (.t 69) (.t 72))] [1,3,6,8,11,73] [3,6,8,30,61,67,93,12702,12703,12902,12903,20302,20303])
 (.cond (.t 73) (.skip) (.exit 2)))
 (.seq (.block 3 (.seq (.ay [Qf 76 2 3,Ql 77 76,Qm 78 11,Qa 79 7 77 78,Qf 80 0 79,Ql 81 80,Qm 82 1,Q 83 (.bin .gtr (.t 81) (.t 82))] [1,3,6,8,11,83] [3,6,8,30,61,67,93,12702,12703,12902,12903,20302,20303])
 (.cond (.t 83) (.eD [Qf 84 2 8,Ql 85 84,Qf 86 2 3,Ql 87 86,Qm 88 11,Qa 89 7 87 88,QL 90 7 89,Q 91 (.call 180 [.t 90] [] []),
   Q 92 (.cE 7 1 [.int .i64 0,.str ⟨#[]⟩,.int .i64 0,.int .i64 0,.int .i64 0,.bp 4,.bp 1] [(0,.t 91)]),Q 93 (.app 7 96 (.t 85) (.t 92)),Qf 94 2 8,Qs 1 94 93] [[],[0],[],[2],[],[2,3,4],[2,3,4,5],[2,3,4,5,6],[2,3,4,5,6,7],lr 9,lr 10,lr 11] [1,3,6,8,11] [3,6,8,30,61,67,93,12702,12703,12902,12903,20302,20303]) (.skip))))
 (.ay [Qm 74 11,Q 75 (.bin .add (.t 74) (kI 1)),Qm 11 75] [1,3,6,8,11] [3,6,8,30,61,67,93,12702,12703,12902,12903,20302,20303]))
def ba.b:C:= .seq (.ay [Qv 3 0,Q 6 (.alloc [.int .i64 0,.int .i64 0,.bp 7,.bp 1]),Qb 7 false] [1,2,3,6] [3,6,30,61,67,93,12702,12703,12902,12903,20302,20303])
 (.seq (.seq (.ay [QL 12 4 3,Q 13 (.call 149 [.t 12] [] []),Q 14 (.not (.t 13)),Qm 15 14,Qg 16 (.load true 4 (.t 3)) 15 false,Qg 17 (.mv (.t 1)) 15 false,
   Qg 18 (.call 300 [.t 16,.t 17] [] []) 15 false,Q 19 (.pick (.t 15) (kB true) (.t 18)),Qm 20 19,Qg 21 (.load true 4 (.t 3)) 20 false,Qg 22 (.mv (.t 2)) 20 false,
   Qg 23 (.call 226 [.t 21,.t 22] [] []) 20 false,Qg 24 (.bin .geq (.t 23) (kI 0)) 20 false,Q 25 (.pick (.t 20) (kB true) (.t 24))] [1,2,3,6,25] [3,6,30,61,67,93,12702,12703,12902,12903,20302,20303])
 (.cond (.t 25) (.seq (.ay [QL 26 4 3,Q 27 (.call 219 [.t 26] [] [(2,12702),(3,12703)]),Qs 4 6 27,Qb 7 false] [6,7] [6,30,61,67,93,12702,12703,12902,12903,20302,20303])
 (.ret)) (.skip)))
 (.seq (.ay [QL 28 4 3,Q 29 (.call 219 [.t 28] [] [(2,12902),(3,12903)]),Q 8 (.alloc [.int .i64 0,.int .i64 0,.bp 7,.bp 1]),Qs 4 8 29] [1,2,3,6,8] [3,6,8,30,61,67,93,12702,12703,12902,12903,20302,20303])
 (.seq (.ay [Q 30 (.cE 7 0 [.int .i64 0,.str ⟨#[]⟩,.int .i64 0,.int .i64 0,.int .i64 0,.bp 4,.bp 1] []),Qf 31 2 8,Qs 1 31 30] [1,2,3,6,8] [3,6,8,30,61,67,93,12702,12703,12902,12903,20302,20303])
 (.seq (.ay [Qm 32 1,Qm 33 2,QL 34 4 3,Q 35 (.call 301 [.t 34] [] []),
   Q 36 (.build [.int .i64 0,.str ⟨#[]⟩,.int .i64 0,.int .i64 0,.int .i64 0,.bp 4,.bp 1] [(0,1,.t 32),(1,1,.t 33),(2,2,.t 35),(4,1,kI 1)]),
   Q 9 (.alloc [.int .i64 0,.str ⟨#[]⟩,.int .i64 0,.int .i64 0,.int .i64 0,.bp 4,.bp 1]),Qs 7 9 36] [1,3,6,8,9] [3,6,8,9,30,61,67,93,12702,12703,12902,12903,20302,20303])
 (.seq (.seq (.ay [Qi 10 0] [1,3,6,8,9,10] [3,6,8,9,30,61,67,93,12702,12703,12902,12903,20302,20303])
 (.block 0 (.loop ba.l0)))
 (.seq (.ay [Qf 63 2 8,Ql 64 63,QL 65 7 9,Q 66 (.cE 7 1 [.int .i64 0,.str ⟨#[]⟩,.int .i64 0,.int .i64 0,.int .i64 0,.bp 4,.bp 1] [(0,.t 65)]),Q 67 (.app 7 96 (.t 64) (.t 66)),
   Qf 68 2 8,Qs 1 68 67] [1,3,6,8] [3,6,8,30,61,67,93,12702,12703,12902,12903,20302,20303])
 (.seq (.seq (.ay [Qi 11 0] [1,3,6,8,11] [3,6,8,30,61,67,93,12702,12703,12902,12903,20302,20303])
 (.block 2 (.loop ba.l1)))
 (.seq (.ay [Qf 95 1 3,Ql 96 95,Q 97 (.bin .add (.t 96) (kI 1)),Qf 98 1 8,Qs 1 98 97] [3,6,8] [3,6,8,30,61,67,93,12702,12703,12902,12903,20302,20303])
 (.seq (.seq (.ay [QL 99 4 8,Q 100 (.call 149 [.t 99] [] []),Q 101 (.not (.t 100))] [3,6,8,101] [3,6,8,30,61,67,93,12702,12703,12902,12903,20302,20303])
 (.cond (.t 101) (.seq (.ay [QL 102 4 3,Q 103 (.call 219 [.t 102] [] [(2,20302),(3,20303)]),Qs 4 6 103,Qb 7 false] [6,7] [6,30,61,67,93,12702,12703,12902,12903,20302,20303])
 (.ret)) (.skip)))
 (.seq (.ay [QL 104 4 8,Qs 4 6 104,Qb 7 true] [6,7] [6,30,61,67,93,12702,12703,12902,12903,20302,20303])
 (.ret)))))))))))
def ba.m:Fn:={np:=3,body:=ba.b,res:=[.cell 6 true 4,.tmp 7]}
def ba.k(M:Nat→Option Body):Prop:=M 278=some (.code ba.m)∧aC.k M∧bD.k M∧bz.k M∧bg.k M∧cw.k M∧ca.k M
def bN.b:C:= .seq (.ay [Qv 3 0,Q 6 (.alloc [.int .i64 0,.int .i64 0,.bp 7,.bp 1]),Qb 7 false] [1,2,3,6] [3,6,11102,11103,15002,15003])
 (.seq (.ay [QL 10 4 3,Q 11 (.call 219 [.t 10] [] [(2,11102),(3,11103)]),Q 8 (.alloc [.int .i64 0,.int .i64 0,.bp 7,.bp 1]),Qs 4 8 11] [1,2,3,6,8] [3,6,8,11102,11103,15002,15003])
 (.seq (.ay [QL 12 4 3,Qm 13 1,Q 14 (.call 196 [.t 12,.t 13] [] []),Qm 9 14] [2,3,6,8,9] [3,6,8,11102,11103,15002,15003])
 (.seq (.seq (.ay [QL 15 4 3,Q 16 (.call 149 [.t 15] [] []),Q 17 (.not (.t 16)),Qm 18 17,Qg 19 (.mv (.t 9)) 18 false,Qg 20 (.bin .lss (.t 19) (kI 0)) 18 false,
   Q 21 (.pick (.t 18) (kB true) (.t 20)),Qm 22 21,Qg 23 (.load true 4 (.t 3)) 22 false,Qg 24 (.mv (.t 2)) 22 false,Qg 25 (.call 226 [.t 23,.t 24] [] []) 22 false,
   Qg 26 (.bin .geq (.t 25) (kI 0)) 22 false,Q 27 (.pick (.t 22) (kB true) (.t 26))] [2,3,6,8,9,27] [3,6,8,11102,11103,15002,15003])
 (.cond (.t 27) (.seq (.ay [QL 28 4 8,Qs 4 6 28,Qb 7 false] [6,7] [6,11102,11103,15002,15003])
 (.ret)) (.skip)))
 (.seq (.ay [Qf 29 2 8,Ql 30 29,Qm 31 9,Qm 32 2,Qa 33 7 30 31,Qf 34 1 33,Qs 1 34 32] [3,6,8,9] [3,6,8,11102,11103,15002,15003])
 (.seq (.eD [Qf 35 2 8,Ql 36 35,Qm 37 9,QL 38 4 3,Q 39 (.call 301 [.t 38] [] []),Qa 40 7 36 37,Qf 41 2 40,Qs 2 41 39] [[],[0],[],[],[3],lr 5,lr 6,lr 7] [3,6,8] [3,6,8,11102,11103,15002,15003])
 (.seq (.ay [Qf 42 1 3,Ql 43 42,Q 44 (.bin .add (.t 43) (kI 1)),Qf 45 1 8,Qs 1 45 44] [3,6,8] [3,6,8,11102,11103,15002,15003])
 (.seq (.seq (.ay [QL 46 4 8,Q 47 (.call 149 [.t 46] [] []),Q 48 (.not (.t 47))] [3,6,8,48] [3,6,8,11102,11103,15002,15003])
 (.cond (.t 48) (.seq (.ay [QL 49 4 3,Q 50 (.call 219 [.t 49] [] [(2,15002),(3,15003)]),Qs 4 6 50,Qb 7 false] [6,7] [6,11102,11103,15002,15003])
 (.ret)) (.skip)))
 (.seq (.ay [QL 51 4 8,Qs 4 6 51,Qb 7 true] [6,7] [6,11102,11103,15002,15003])
 (.ret)))))))))
def bN.m:Fn:={np:=3,body:=bN.b,res:=[.cell 6 true 4,.tmp 7]}
def bN.k(M:Nat→Option Body):Prop:=M 282=some (.code bN.m)∧aC.k M∧bJ.k M∧bz.k M∧bg.k M∧ca.k M
def cy.b:C:= .seq (.ay [Qv 2 0,Q 4 (.alloc [.int .i64 0,.int .i64 0,.bp 7,.bp 1]),Qb 5 false] [1,2,4] [2,4,27,32,38,10902,10903,14300])
 (.seq (.ay [QL 8 4 2,Q 9 (.call 219 [.t 8] [] [(2,10902),(3,10903)]),Q 6 (.alloc [.int .i64 0,.int .i64 0,.bp 7,.bp 1]),Qs 4 6 9] [1,2,4,6] [2,4,6,27,32,38,10902,10903,14300])
 (.seq (.ay [QL 10 4 2,Qm 11 1,Q 12 (.call 196 [.t 10,.t 11] [] []),Qm 7 12] [1,2,4,6,7] [2,4,6,27,32,38,10902,10903,14300])
 (.seq (.seq (.ay [QL 13 4 2,Q 14 (.call 149 [.t 13] [] []),Q 15 (.not (.t 14)),Qm 16 15,Qg 17 (.mv (.t 7)) 16 false,Qg 18 (.bin .lss (.t 17) (kI 0)) 16 false,
   Q 19 (.pick (.t 16) (kB true) (.t 18)),Qm 20 19,Qg 21 (.cS 3 (.t 2)) 20 false,Qg 22 (.load false 1 (.t 21)) 20 false,Qg 23 (.len (.t 22)) 20 false,
   Qg 24 (.bin .geq (.t 23) (kI 20)) 20 false,Q 25 (.pick (.t 20) (kB true) (.t 24))] [1,2,4,6,7,25] [2,4,6,27,32,38,10902,10903,14300])
 (.cond (.t 25) (.seq (.ay [QL 26 4 6,Qs 4 4 26,Qb 5 false] [4,5] [4,27,32,38,10902,10903,14300])
 (.ret)) (.skip)))
 (.seq (.eD [Q 27 (.cE 7 0 [.int .i64 0,.str ⟨#[]⟩,.int .i64 0,.int .i64 0,.int .i64 0,.bp 4,.bp 1] []),Qf 28 2 6,Ql 29 28,Qm 30 7,
   Q 31 (.tW 7 (.t 29) none (some (.t 30)) none),Q 32 (.app 7 96 (.t 27) (.t 31)),Qf 33 2 6,Ql 34 33,Qm 35 7,Q 36 (.bin .add (.t 35) (kI 1)),
   Q 37 (.tW 7 (.t 34) (some (.t 36)) none none),Q 38 (.app 7 96 (.t 32) (.t 37)),Qf 39 2 6,Qs 1 39 38] [[],[],[1],[],[1,2,3],lr 5,[],[6],[],[8],[6,7,8,9],lr 11,lr 12,lr 13] [1,2,4,6] [2,4,6,27,32,38,10902,10903,14300])
 (.seq (.ay [Qf 40 3 2,Ql 41 40,Qm 42 1,Q 43 (.call 133 [.t 41,.t 42] [] [(0,14300)]),Qf 44 3 6,Qs 1 44 43] [4,6] [4,6,27,32,38,10902,10903,14300])
 (.seq (.ay [QL 45 4 6,Qs 4 4 45,Qb 5 true] [4,5] [4,27,32,38,10902,10903,14300])
 (.ret)))))))
def cy.m:Fn:={np:=2,body:=cy.b,res:=[.cell 4 true 4,.tmp 5]}
def cy.k(M:Nat→Option Body):Prop:=M 283=some (.code cy.m)∧bX.k M∧aC.k M∧bJ.k M∧bz.k M
def ch.b:C:= .seq (.ay [Qv 3 0,Qv 5 2,Q 6 (.alloc [.int .i64 0,.int .i64 0,.bp 7,.bp 1]),Qb 7 false] [1,3,5,6] [3,5,6,11002,11003,12402,12403])
 (.seq (.ay [QL 9 4 3,Q 10 (.call 219 [.t 9] [] [(2,11002),(3,11003)]),Q 8 (.alloc [.int .i64 0,.int .i64 0,.bp 7,.bp 1]),Qs 4 8 10] [1,3,5,6,8] [3,5,6,8,11002,11003,12402,12403])
 (.seq (.ay [Qf 11 2 8,Ql 12 11,Qm 13 1,QL 14 7 5,Qa 15 7 12 13,Qs 7 15 14] [3,6,8] [3,6,8,11002,11003,12402,12403])
 (.seq (.ay [Qf 16 1 3,Ql 17 16,Q 18 (.bin .add (.t 17) (kI 1)),Qf 19 1 8,Qs 1 19 18] [3,6,8] [3,6,8,11002,11003,12402,12403])
 (.seq (.seq (.ay [QL 20 4 8,Q 21 (.call 149 [.t 20] [] []),Q 22 (.not (.t 21))] [3,6,8,22] [3,6,8,11002,11003,12402,12403])
 (.cond (.t 22) (.seq (.ay [QL 23 4 3,Q 24 (.call 219 [.t 23] [] [(2,12402),(3,12403)]),Qs 4 6 24,Qb 7 false] [6,7] [6,11002,11003,12402,12403])
 (.ret)) (.skip)))
 (.seq (.ay [QL 25 4 8,Qs 4 6 25,Qb 7 true] [6,7] [6,11002,11003,12402,12403])
 (.ret))))))
def ch.m:Fn:={np:=3,body:=ch.b,res:=[.cell 6 true 4,.tmp 7]}
def ch.k(M:Nat→Option Body):Prop:=M 302=some (.code ch.m)∧aC.k M∧bz.k M
def cv.b:C:= .seq (.ay [Qv 5 0,Q 10 (.alloc [.int .i64 0,.int .i64 0,.bp 7,.bp 1]),Qb 11 false] [1,2,3,4,5,10] [5,10,13102,13103,14902,14903,15302,15303])
 (.seq (.ay [QL 15 4 5,Qm 16 1,Q 17 (.call 196 [.t 15,.t 16] [] []),Qm 12 17] [2,3,4,5,10,12] [5,10,13102,13103,14902,14903,15302,15303])
 (.seq (.seq (.ay [QL 18 4 5,Q 19 (.call 149 [.t 18] [] []),Q 20 (.not (.t 19)),Qm 21 20,Qg 22 (.load true 4 (.t 5)) 21 false,Qg 23 (.mv (.t 2)) 21 false,
   Qg 24 (.call 300 [.t 22,.t 23] [] []) 21 false,Q 25 (.pick (.t 21) (kB true) (.t 24)),Qm 26 25,Qg 27 (.mv (.t 12)) 26 false,Qg 28 (.bin .lss (.t 27) (kI 0)) 26 false,
   Q 29 (.pick (.t 26) (kB true) (.t 28))] [2,3,4,5,10,12,29] [5,10,13102,13103,14902,14903,15302,15303])
 (.cond (.t 29) (.seq (.ay [QL 30 4 5,Q 31 (.call 219 [.t 30] [] [(2,13102),(3,13103)]),Qs 4 10 31,Qb 11 false] [10,11] [10,13102,13103,14902,14903,15302,15303])
 (.ret)) (.skip)))
 (.seq (.eD [Qf 33 2 5,Ql 34 33,Qm 35 12,Qa 36 7 34 35,QL 37 7 36,Qm 38 2,Qm 39 3,Qm 40 4,QL 41 4 5,Q 42 (.call 301 [.t 41] [] []),
   Q 43 (.call 81 [.t 37,.t 38,.t 39,.t 40,.t 42] [] []),Qm 32 43,Qx 44 0 32,Qx 45 1 32,
   Q 13 (.alloc [.int .i64 0,.str ⟨#[]⟩,.int .i64 0,.int .i64 0,.int .i64 0,.bp 4,.bp 1]),Qs 7 13 44,Qm 14 45] [[],[0],[],[0,1,2],lr 4,[],[],[],[],[8],lr 10,lr 11,lr 12,lr 12,[],lr 13++[14],lr 16] [5,10,12,13,14] [5,10,13,13102,13103,14902,14903,15302,15303])
 (.seq (.seq (.ay [Qm 46 14,Q 47 (.not (.t 46))] [5,10,12,13,47] [5,10,13,13102,13103,14902,14903,15302,15303])
 (.cond (.t 47) (.seq (.ay [QL 48 4 5,Q 49 (.call 219 [.t 48] [] [(2,14902),(3,14903)]),Qs 4 10 49,Qb 11 false] [10,11] [10,13102,13103,14902,14903,15302,15303])
 (.ret)) (.skip)))
 (.seq (.ay [QL 50 4 5,Qm 51 12,QL 52 7 13,Q 53 (.call 302 [.t 50,.t 51,.t 52] [] [(2,15302),(3,15303)]),Qx 54 0 53,Qx 55 1 53,Qs 4 10 54,Qm 11 55] [10,11] [10,13102,13103,14902,14903,15302,15303])
 (.ret))))))
def cv.m:Fn:={np:=5,body:=cv.b,res:=[.cell 10 true 4,.tmp 11]}
def cv.k(M:Nat→Option Body):Prop:=M 279=some (.code cv.m)∧cd.k M∧aC.k M∧bJ.k M∧bz.k M∧cw.k M∧ca.k M∧ch.k M
def cm.b:C:= .seq (.ay [Qv 4 0,Q 8 (.alloc [.int .i64 0,.int .i64 0,.bp 7,.bp 1]),Qb 9 false] [1,2,3,4,8] [4,8,12402,12403,14102,14103,14502,14503])
 (.seq (.ay [QL 13 4 4,Qm 14 1,Q 15 (.call 196 [.t 13,.t 14] [] []),Qm 10 15] [2,3,4,8,10] [4,8,12402,12403,14102,14103,14502,14503])
 (.seq (.seq (.ay [QL 16 4 4,Q 17 (.call 149 [.t 16] [] []),Q 18 (.not (.t 17)),Qm 19 18,Qg 20 (.mv (.t 10)) 19 false,Qg 21 (.bin .lss (.t 20) (kI 0)) 19 false,
   Q 22 (.pick (.t 19) (kB true) (.t 21))] [2,3,4,8,10,22] [4,8,12402,12403,14102,14103,14502,14503])
 (.cond (.t 22) (.seq (.ay [QL 23 4 4,Q 24 (.call 219 [.t 23] [] [(2,12402),(3,12403)]),Qs 4 8 24,Qb 9 false] [8,9] [8,12402,12403,14102,14103,14502,14503])
 (.ret)) (.skip)))
 (.seq (.eD [Qf 26 2 4,Ql 27 26,Qm 28 10,Qa 29 7 27 28,QL 30 7 29,Qm 31 2,Qm 32 3,QL 33 4 4,Q 34 (.call 301 [.t 33] [] []),Q 35 (.call 84 [.t 30,.t 31,.t 32,.t 34] [] []),Qm 25 35,
   Qx 36 0 25,Qx 37 1 25,Q 11 (.alloc [.int .i64 0,.str ⟨#[]⟩,.int .i64 0,.int .i64 0,.int .i64 0,.bp 4,.bp 1]),Qs 7 11 36,Qm 12 37] [[],[0],[],[0,1,2],lr 4,[],[],[],[7],lr 9,lr 10,lr 11,lr 11,[],lr 12++[13],lr 15] [4,8,10,11,12] [4,8,11,12402,12403,14102,14103,14502,14503])
 (.seq (.seq (.ay [Qm 38 12,Q 39 (.not (.t 38))] [4,8,10,11,39] [4,8,11,12402,12403,14102,14103,14502,14503])
 (.cond (.t 39) (.seq (.ay [QL 40 4 4,Q 41 (.call 219 [.t 40] [] [(2,14102),(3,14103)]),Qs 4 8 41,Qb 9 false] [8,9] [8,12402,12403,14102,14103,14502,14503])
 (.ret)) (.skip)))
 (.seq (.ay [QL 42 4 4,Qm 43 10,QL 44 7 11,Q 45 (.call 302 [.t 42,.t 43,.t 44] [] [(2,14502),(3,14503)]),Qx 46 0 45,Qx 47 1 45,Qs 4 8 46,Qm 9 47] [8,9] [8,12402,12403,14102,14103,14502,14503])
 (.ret))))))
def cm.m:Fn:={np:=4,body:=cm.b,res:=[.cell 8 true 4,.tmp 9]}
def cm.k(M:Nat→Option Body):Prop:=M 280=some (.code cm.m)∧b_.k M∧aC.k M∧bJ.k M∧bz.k M∧ca.k M∧ch.k M
def cn.b:C:= .seq (.ay [Qv 3 0,Q 6 (.alloc [.int .i64 0,.int .i64 0,.bp 7,.bp 1]),Qb 7 false] [1,2,3,6] [3,6,11302,11303])
 (.seq (.ay [QL 12 4 3,Q 13 (.call 219 [.t 12] [] [(2,11302),(3,11303)]),Q 8 (.alloc [.int .i64 0,.int .i64 0,.bp 7,.bp 1]),Qs 4 8 13] [1,2,3,6,8] [3,6,8,11302,11303])
 (.seq (.ay [QL 14 4 3,Qm 15 1,Q 16 (.call 196 [.t 14,.t 15] [] []),Qm 9 16] [2,3,6,8,9] [3,6,8,11302,11303])
 (.seq (.seq (.ay [QL 17 4 3,Q 18 (.call 149 [.t 17] [] []),Q 19 (.not (.t 18)),Qm 20 19,Qg 21 (.mv (.t 9)) 20 false,Qg 22 (.bin .lss (.t 21) (kI 0)) 20 false,
   Q 23 (.pick (.t 20) (kB true) (.t 22))] [2,3,6,8,9,23] [3,6,8,11302,11303])
 (.cond (.t 23) (.seq (.ay [QL 24 4 8,Qs 4 6 24,Qb 7 false] [6,7] [6,11302,11303])
 (.ret)) (.skip)))
 (.seq (.ay [Qf 26 2 3,Ql 27 26,Qm 28 9,Qa 29 7 27 28,QL 30 7 29,Qm 31 2,Q 32 (.call 86 [.t 30,.t 31] [] []),Qm 25 32,Qx 33 0 25,Qx 34 1 25,
   Q 10 (.alloc [.int .i64 0,.str ⟨#[]⟩,.int .i64 0,.int .i64 0,.int .i64 0,.bp 4,.bp 1]),Qs 7 10 33,Qm 11 34] [6,8,9,10,11] [6,8,10,11302,11303])
 (.seq (.seq (.ay [Qm 35 11,Q 36 (.not (.t 35))] [6,8,9,10,36] [6,8,10,11302,11303])
 (.cond (.t 36) (.seq (.ay [QL 37 4 8,Qs 4 6 37,Qb 7 false] [6,7] [6,11302,11303])
 (.ret)) (.skip)))
 (.seq (.ay [Qf 38 2 8,Ql 39 38,Qm 40 9,QL 41 7 10,Qa 42 7 39 40,Qs 7 42 41] [6,8] [6,8,11302,11303])
 (.seq (.ay [QL 43 4 8,Qs 4 6 43,Qb 7 true] [6,7] [6,11302,11303])
 (.ret))))))))
def cn.m:Fn:={np:=3,body:=cn.b,res:=[.cell 6 true 4,.tmp 7]}
def cn.k(M:Nat→Option Body):Prop:=M 281=some (.code cn.m)∧bT.k M∧aC.k M∧bJ.k M∧bz.k M
def aT.l0:C:= .seq (.seq (.ay [Qm 22 8,Qm 23 0,Q 24 (.gJ (.t 23)),Q 25 (.bin .lss (.t 22) (.t 24)),Qm 26 25,Qg 27 (.mv (.t 0)) 26 true,Qg 28 (.mv (.t 8)) 26 true,Qg 29 (.idx (.t 27) (.t 28)) 26 true,
    Qg 30 (.bin .geq (.t 29) (.k (.int .u8 48))) 26 true,Q 31 (.pick (.t 26) (.t 30) (kB false)),Qm 32 31,Qg 33 (.mv (.t 0)) 32 true,Qg 34 (.mv (.t 8)) 32 true,
    Qg 35 (.idx (.t 33) (.t 34)) 32 true,Qg 36 (.bin .leq (.t 35) (.k (.int .u8 57))) 32 true,Q 37 (.pick (.t 32) (.t 36) (kB false)),Qm 38 37,Qg 39 (.mv (.t 8)) 38 true,
    Qg 40 (.mv (.t 1)) 38 true,Qg 41 (.bin .add (.t 40) (kI 4)) 38 true,Qg 42 (.bin .lss (.t 39) (.t 41)) 38 true,Q 43 (.pick (.t 38) (.t 42) (kB false))] [0,1,7,8,43] [])
 (.cond (.t 43) (.skip) (.exit 0)))
 (.block 1 (.seq (.ay [Qm 44 7,Q 45 (.bin .mul (kI 10) (.t 44)),Qm 46 0,Qm 47 8,Q 48 (.idx (.t 46) (.t 47)),Q 49 (.qL .i64 (.t 48)),Q 50 (.bin .add (.t 45) (.t 49)),
   Q 51 (.bin .sub (.t 50) (kI 48)),Qm 7 51] [0,1,7,8] [])
 (.ay [Qm 52 8,Q 53 (.bin .add (.t 52) (kI 1)),Qm 8 53] [0,1,7,8] [])))
def aT.b:C:= .seq (.ay [Qi 4 0,Qi 5 0,Qb 6 false] [0,1] [])
 (.seq (.seq (.ay [Qm 9 1,Qm 10 0,Q 11 (.gJ (.t 10)),Q 12 (.bin .lss (.t 9) (.t 11)),Qm 13 12,Qg 14 (.mv (.t 0)) 13 true,Qg 15 (.mv (.t 1)) 13 true,Qg 16 (.idx (.t 14) (.t 15)) 13 true,
   Qg 17 (.bin .eql (.t 16) (.k (.int .u8 42))) 13 true,Q 18 (.pick (.t 13) (.t 17) (kB false))] [0,1,18] [])
 (.cond (.t 18) (.seq (.ay [Qm 19 1,Q 20 (.bin .add (.t 19) (kI 1)),Qi 4 0,Qm 5 20,Qb 6 true] [4,5,6] [])
 (.ret)) (.skip)))
 (.seq (.ay [Qi 7 0] [0,1,7] [])
 (.seq (.ay [Qm 21 1,Qm 8 21] [0,1,7,8] [])
 (.seq (.block 0 (.loop aT.l0))
 (.seq (.ay [Qm 54 7,Qm 55 8,Qm 56 8,Qm 57 1,Q 58 (.bin .gtr (.t 56) (.t 57)),Qm 59 58,Qg 60 (.mv (.t 7)) 59 true,Qg 61 (.bin .gtr (.t 60) (kI 0)) 59 true,
   Q 62 (.pick (.t 59) (.t 61) (kB false)),Qm 4 54,Qm 5 55,Qm 6 62] [4,5,6] [])
 (.ret))))))
def aT.m:Fn:={np:=2,body:=aT.b,res:=[.tmp 4,.tmp 5,.tmp 6]}
def aT.k(M:Nat→Option Body):Prop:=M 326=some (.code aT.m)
def aS.l0:C:= .block 1 (.seq (.ay [Qm 17 0,Qm 18 6,Q 19 (.call 326 [.t 17,.t 18] [] []),Qm 16 19,Qx 20 0 16,Qx 21 1 16,Qx 22 2 16,Qm 7 20,Qm 8 21,Qm 9 22] [0,4,5,7,8,9] [14,15,57])
 (.seq (.seq (.ay [Qm 23 9,Q 24 (.not (.t 23))] [0,4,5,7,8,24] [14,15,57])
 (.cond (.t 24) (.seq (.ay [Qm 25 4,Qm 2 25,Qb 3 false] [2,3] [2,14,15,57])
 (.ret)) (.skip)))
 (.seq (.ay [Qm 26 7,Qm 27 7,Q 28 (.build [.int .i64 0,.int .i64 0] [(0,1,.t 26),(1,1,.t 27)]),Q 10 (.alloc [.int .i64 0,.int .i64 0]),Qs 2 10 28] [0,4,5,8,10] [10,14,15,57])
 (.seq (.ay [Qm 29 8,Qm 6 29] [0,4,5,6,10] [10,14,15,57])
 (.seq (.seq (.ay [Qm 30 6,Qm 31 0,Q 32 (.gJ (.t 31)),Q 33 (.bin .lss (.t 30) (.t 32)),Qm 34 33,Qg 35 (.mv (.t 0)) 34 true,Qg 36 (.mv (.t 6)) 34 true,Qg 37 (.idx (.t 35) (.t 36)) 34 true,
   Qg 38 (.bin .eql (.t 37) (.k (.int .u8 58))) 34 true,Q 39 (.pick (.t 34) (.t 38) (kB false))] [0,4,5,6,10,39] [10,14,15,57])
 (.cond (.t 39) (.seq (.ay [Qm 41 0,Qm 42 6,Q 43 (.bin .add (.t 42) (kI 1)),Q 44 (.call 326 [.t 41,.t 43] [] []),Qm 40 44,Qx 45 0 40,Qx 46 1 40,Qx 47 2 40,Qm 11 45,Qm 12 46,Qm 13 47] [0,4,5,10,11,12,13] [10,14,15,57])
 (.seq (.seq (.ay [Qm 48 13,Q 49 (.not (.t 48))] [0,4,5,10,11,12,49] [10,14,15,57])
 (.cond (.t 49) (.seq (.ay [Qm 50 4,Qm 2 50,Qb 3 false] [2,3] [2,14,15,57])
 (.ret)) (.skip)))
 (.seq (.ay [Qm 51 11,Qf 52 1 10,Qs 1 52 51] [0,4,5,10,12] [10,14,15,57])
 (.ay [Qm 53 12,Qm 6 53] [0,4,5,6,10] [10,14,15,57])))) (.skip)))
 (.seq (.ay [Qm 54 5,QL 55 2 10,Q 56 (.cE 2 1 [.int .i64 0,.int .i64 0] [(0,.t 55)]),Q 57 (.app 2 16 (.t 54) (.t 56)),Qm 5 57] [0,4,5,6] [14,15,57])
 (.seq (.seq (.ay [Qm 58 5,Q 59 (.len (.t 58)),Q 60 (.bin .gtr (.t 59) (kI 8))] [0,4,5,6,60] [14,15,57])
 (.cond (.t 60) (.seq (.ay [Qm 61 4,Qm 2 61,Qb 3 false] [2,3] [2,14,15,57])
 (.ret)) (.skip)))
 (.seq (.seq (.ay [Qm 62 6,Qm 63 0,Q 64 (.gJ (.t 63)),Q 65 (.bin .eql (.t 62) (.t 64))] [0,4,5,6,65] [14,15,57])
 (.cond (.t 65) (.seq (.ay [Qm 66 5,Qm 2 66,Qb 3 true] [2,3] [2,14,15,57])
 (.ret)) (.skip)))
 (.seq (.seq (.ay [Qm 67 0,Qm 68 6,Q 69 (.idx (.t 67) (.t 68)),Q 70 (.bin .neq (.t 69) (.k (.int .u8 44)))] [0,4,5,6,70] [14,15,57])
 (.cond (.t 70) (.seq (.ay [Qm 71 4,Qm 2 71,Qb 3 false] [2,3] [2,14,15,57])
 (.ret)) (.skip)))
 (.ay [Qm 72 6,Q 73 (.bin .add (.t 72) (kI 1)),Qm 6 73] [0,4,5,6] [14,15,57]))))))))))
def aS.b:C:= .seq (.ay [Q 2 (.nil 2),Qb 3 false] [0] [])
 (.seq (.ay [Q 14 (.cE 2 0 [.int .i64 0,.int .i64 0] []),Qm 4 14] [0,4] [14])
 (.seq (.ay [Q 15 (.cE 2 0 [.int .i64 0,.int .i64 0] []),Qm 5 15] [0,4,5] [14,15,57])
 (.seq (.ay [Qi 6 0] [0,4,5,6] [14,15,57])
 (.block 0 (.loop aS.l0)))))
def aS.m:Fn:={np:=1,body:=aS.b,res:=[.tmp 2,.tmp 3]}
def aS.k(M:Nat→Option Body):Prop:=M 322=some (.code aS.m)∧aT.k M
def cD.l0:C:= .seq (.seq (.ay [Qm 12 7,Qm 13 0,Q 14 (.len (.t 13)),Q 15 (.bin .lss (.t 12) (.t 14))] [0,1,2,7,15] [])
 (.cond (.t 15) (.skip) (.exit 0)))
 (.seq (.block 1 (.seq (.ay [Qm 18 0,Qm 19 7,Qa 20 2 18 19,Qf 21 0 20,Ql 22 21,Qm 8 22] [0,1,2,7,8] [])
 (.seq (.ay [Qm 23 0,Qm 24 7,Qa 25 2 23 24,Qf 26 1 25,Ql 27 26,Qm 9 27] [0,1,2,7,8,9] [])
 (.seq (.seq (.ay [Qm 28 8,Q 29 (.bin .eql (.t 28) (kI 0))] [0,1,2,7,8,9,29] [])
 (.cond (.t 29) (.ay [Qm 30 2,Qm 8 30] [0,1,2,7,8,9] []) (.skip)))
 (.seq (.seq (.ay [Qm 31 9,Q 32 (.bin .eql (.t 31) (kI 0))] [0,1,2,7,8,9,32] [])
 (.cond (.t 32) (.ay [Qm 33 2,Qm 9 33] [0,1,2,7,8,9] []) (.skip)))
 (.seq (.seq (.ay [Qm 34 8,Qm 35 9,Q 36 (.bin .gtr (.t 34) (.t 35))] [0,1,2,7,8,9,36] [])
 (.cond (.t 36) (.ay [Qm 37 9,Qm 38 8,Qm 8 37,Qm 9 38] [0,1,2,7,8,9] []) (.skip)))
 (.seq (.ay [Qm 39 1,Qm 40 8,Q 41 (.bin .geq (.t 39) (.t 40)),Qm 42 41,Qg 43 (.mv (.t 1)) 42 true,Qg 44 (.mv (.t 9)) 42 true,Qg 45 (.bin .leq (.t 43) (.t 44)) 42 true,
   Q 46 (.pick (.t 42) (.t 45) (kB false))] [0,1,2,7,46] [])
 (.cond (.t 46) (.seq (.ay [Qb 6 true] [6] [])
 (.ret)) (.skip)))))))))
 (.ay [Qm 16 7,Q 17 (.bin .add (.t 16) (kI 1)),Qm 7 17] [0,1,2,7] []))
def cD.b:C:= .seq (.ay [Qb 6 false] [0,1,2] [])
 (.seq (.seq (.ay [Qm 10 1,Q 11 (.bin .lss (.t 10) (kI 1))] [0,1,2,11] [])
 (.cond (.t 11) (.seq (.ay [Qb 6 false] [6] [])
 (.ret)) (.skip)))
 (.seq (.seq (.ay [Qi 7 0] [0,1,2,7] [])
 (.block 0 (.loop cD.l0)))
 (.seq (.ay [Qb 6 false] [6] [])
 (.ret))))
def cD.m:Fn:={np:=3,body:=cD.b,res:=[.tmp 6]}
def cD.k(M:Nat→Option Body):Prop:=M 327=some (.code cD.m)
def bU.l0:C:= .seq (.seq (.ay [Qm 8 6,Qm 9 1,Q 10 (.bin .leq (.t 8) (.t 9)),Qm 11 10,Qg 12 (.mv (.t 6)) 11 true,Qg 13 (.bin .leq (.t 12) (kI 100)) 11 true,Q 14 (.pick (.t 11) (.t 13) (kB false))] [0,1,5,6,14] [7,24])
 (.cond (.t 14) (.skip) (.exit 0)))
 (.seq (.block 1 (.seq (.ay [Qm 17 0,Qm 18 6,Qm 19 1,Q 20 (.call 327 [.t 17,.t 18,.t 19] [] [])] [0,1,5,6,20] [7,24])
 (.cond (.t 20) (.ay [Qm 21 5,Qm 22 6,Q 23 (.cE 1 1 [.int .i64 0] [(0,.t 22)]),Q 24 (.app 1 8 (.t 21) (.t 23)),Qm 5 24] [0,1,5,6] [7,24]) (.skip))))
 (.ay [Qm 15 6,Q 16 (.bin .add (.t 15) (kI 1)),Qm 6 16] [0,1,5,6] [7,24]))
def bU.b:C:= .seq (.ay [Q 4 (.nil 1)] [0,1] [])
 (.seq (.ay [Q 7 (.cE 1 0 [.int .i64 0] []),Qm 5 7] [0,1,5] [7,24])
 (.seq (.seq (.ay [Qi 6 1] [0,1,5,6] [7,24])
 (.block 0 (.loop bU.l0)))
 (.seq (.ay [Qm 25 5,Qm 4 25] [4] [4,7,24])
 (.ret))))
def bU.m:Fn:={np:=2,body:=bU.b,res:=[.tmp 4]}
def bU.k(M:Nat→Option Body):Prop:=M 323=some (.code bU.m)∧cD.k M
def cZ.b:C:= .seq (.ay [Q 0 (.alloc [.str ⟨#[]⟩,.str ⟨#[]⟩,.bool false,.bool false,.int .i64 0,.bp 1])] [0] [0])
 (.seq (.ay [Q 1 (.build [.str ⟨#[]⟩,.str ⟨#[]⟩,.bool false,.bool false,.int .i64 0,.bp 1] [(1,1,.k (.str ⟨#[42,32,79,75,13,10]⟩))]),Qs 6 0 1] [0] [0])
 (.ret))
def cZ.m:Fn:={np:=0,body:=cZ.b,res:=[.cell 0 true 6]}
def cZ.k(M:Nat→Option Body):Prop:=M 284=some (.code cZ.m)
def c_.b:C:= .seq (.ay [Q 0 (.alloc [.str ⟨#[]⟩,.str ⟨#[]⟩,.bool false,.bool false,.int .i64 0,.bp 1])] [0] [0])
 (.seq (.ay [Q 1 (.build [.str ⟨#[]⟩,.str ⟨#[]⟩,.bool false,.bool false,.int .i64 0,.bp 1] [(1,1,.k (.str ⟨#[42,32,79,75,13,10]⟩))]),Qs 6 0 1] [0] [0])
 (.ret))
def c_.m:Fn:={np:=0,body:=c_.b,res:=[.cell 0 true 6]}
def c_.k(M:Nat→Option Body):Prop:=M 97=some (.code c_.m)
def bn.b:C:= .seq (.ay [Qv 1 0,Q 2 (.alloc [.str ⟨#[]⟩,.str ⟨#[]⟩,.bool false,.bool false,.int .i64 0,.bp 1])] [1,2] [1,2,5,8])
 (.seq (.ay [QL 4 6 1,Q 3 (.alloc [.str ⟨#[]⟩,.str ⟨#[]⟩,.bool false,.bool false,.int .i64 0,.bp 1]),Qs 6 3 4] [1,2,3] [1,2,3,5,8])
 (.seq (.ay [Q 5 (.cE 1 0 [.int .i64 0] []),Qf 6 5 1,Ql 7 6,Q 8 (.app 1 8 (.t 5) (.t 7)),Qf 9 5 3,Qs 1 9 8] [2,3] [2,3,5,8])
 (.seq (.ay [QL 10 6 3,Qs 6 2 10] [2] [2,5,8])
 (.ret))))
def bn.m:Fn:={np:=1,body:=bn.b,res:=[.cell 2 true 6]}
def bn.k(M:Nat→Option Body):Prop:=M 195=some (.code bn.m)
def cR.b:C:= .seq (.ay [Qv 1 0,Q 2 (.alloc [.str ⟨#[]⟩,.str ⟨#[]⟩,.bool false,.bool false,.int .i64 0,.bp 1])] [1,2] [1,2,10500])
 (.seq (.ay [Qf 3 5 1,Ql 4 3,Q 5 (.call 134 [.t 4] [] [(0,10500)]),Qf 6 5 1,Qs 1 6 5] [1,2] [1,2,10500])
 (.seq (.ay [QL 7 6 1,Qs 6 2 7] [2] [2,10500])
 (.ret)))
def cR.m:Fn:={np:=1,body:=cR.b,res:=[.cell 2 true 6]}
def cR.k(M:Nat→Option Body):Prop:=M 190=some (.code cR.m)∧dv.k M
def cV.l0:C:= .seq (.seq (.ay [Qm 8 4,Qm 9 0,Q 10 (.len (.t 9)),Q 11 (.bin .lss (.t 8) (.t 10)),Qm 12 11,Qg 13 (.mv (.t 4)) 12 true,Qg 14 (.bin .lss (.t 13) (kI 4000)) 12 true,
    Q 15 (.pick (.t 12) (.t 14) (kB false))] [0,3,4,15] [])
 (.cond (.t 15) (.skip) (.exit 0)))
 (.seq (.block 1 (.ay [Qm 18 3,Q 19 (.bin .mul (.t 18) (kI 131)),Qm 20 0,Qm 21 4,Qa 22 1 20 21,Ql 23 22,Q 24 (.qL .i64 (.t 23)),Q 25 (.bin .add (.t 19) (.t 24)),Q 26 (.bin .add (.t 25) (kI 7)),
   Q 27 (.bin .and (.t 26) (kI 1073741823)),Qm 3 27] [0,3,4] []))
 (.ay [Qm 16 4,Q 17 (.bin .add (.t 16) (kI 1)),Qm 4 17] [0,3,4] []))
def cV.b:C:= .seq (.ay [Q 2 (.np)] [0] [])
 (.seq (.ay [Qm 5 0,Q 6 (.len (.t 5)),Q 7 (.bin .add (kI 77201) (.t 6)),Qm 3 7] [0,3] [])
 (.seq (.seq (.ay [Qi 4 0] [0,3,4] [])
 (.block 0 (.loop cV.l0)))
 (.seq (.ay [Qm 28 0,Qm 29 3,Q 30 (.build [.bp 1,.int .i64 0,.int .i64 0] [(0,1,.t 28),(2,1,.t 29)]),Qv 31 30,Qm 2 31] [2] [31])
 (.ret))))
def cV.m:Fn:={np:=1,body:=cV.b,res:=[.tmp 2]}
def cV.k(M:Nat→Option Body):Prop:=M 124=some (.code cV.m)
def cP.b:C:= .seq (.ay [Qi 2 0] [0] [0])
 (.seq (.ay [Qm 4 0,Qm 5 0,Q 6 (.dx (.t 5)),Qf 7 2 6,Ql 8 7,Q 9 (.bin .mul (.t 8) (kI 6364136223846793005)),Q 10 (.bin .add (.t 9) (kI 1442695040888963407)),Q 11 (.dx (.t 4)),
   Qf 12 2 11,Qs 1 12 10] [0] [0])
 (.seq (.eD [Qm 13 0,Q 14 (.dx (.t 13)),Qf 15 2 14,Ql 16 15,Q 17 (.bin .shr (.t 16) (.k (.int .u64 33))),Qm 18 0,Q 19 (.dx (.t 18)),Qf 20 2 19,Ql 21 20,
   Q 22 (.bin .shr (.t 21) (.k (.int .u64 45))),Q 23 (.bin .xor (.t 17) (.t 22)),Q 24 (.bin .and (.t 23) (kI 255)),Qm 3 24] [[],[0],[0,1],[0,1,2],lr 4,[],[5],[5,6],[5,6,7],[5,6,7,8],lr 10,lr 11,lr 12] [0,3] [0])
 (.seq (.seq (.eD [Qm 25 0,Q 26 (.dx (.t 25)),Qf 27 1 26,Ql 28 27,Qm 29 0,Q 30 (.dx (.t 29)),Qf 31 0 30,Ql 32 31,Q 33 (.len (.t 32)),Q 34 (.bin .lss (.t 28) (.t 33))] [[],[0],[0,1],[0,1,2],[],[4],[4,5],[4,5,6],[4,5,6,7],lr 9] [0,3,34] [0])
 (.cond (.t 34) (.seq (.eD [Qm 35 3,Qm 36 0,Q 37 (.dx (.t 36)),Qf 38 0 37,Ql 39 38,Qm 40 0,Q 41 (.dx (.t 40)),Qf 42 1 41,Ql 43 42,Qa 44 1 39 43,Ql 45 44,Q 46 (.qL .i64 (.t 45)),
   Q 47 (.bin .add (.t 35) (.t 46)),Q 48 (.bin .and (.t 47) (kI 255)),Qm 3 48] [[],[],[1],[1,2],[1,2,3],[],[5],[5,6],[5,6,7],[1,2,3,4,5,6,7,8],[1,2,3,4,5,6,7,8,9],[1,2,3,4,5,6,7,8,9,10],lr 12,lr 13,lr 14] [0,3] [0])
 (.ay [Qm 49 0,Qm 50 0,Q 51 (.dx (.t 50)),Qf 52 1 51,Ql 53 52,Q 54 (.bin .add (.t 53) (kI 1)),Q 55 (.dx (.t 49)),Qf 56 1 55,Qs 1 56 54] [3] [0])) (.skip)))
 (.seq (.ay [Qm 57 3,Qm 2 57] [2] [0])
 (.ret)))))
def cP.m:Fn:={np:=1,body:=cP.b,res:=[.tmp 2]}
def cP.k(M:Nat→Option Body):Prop:=M 131=some (.code cP.m)
def a4.b:C:= .seq (.ay [Qi 4 0] [0,1] [0])
 (.seq (.seq (.ay [Qm 9 1,Q 10 (.bin .leq (.t 9) (kI 0))] [0,1,10] [0])
 (.cond (.t 10) (.seq (.ay [Qi 4 0] [4] [0])
 (.ret)) (.skip)))
 (.seq (.seq (.ay [Qm 11 1,Q 12 (.bin .leq (.t 11) (kI 256))] [0,1,12] [0])
 (.cond (.t 12) (.seq (.ay [Qm 13 0,Q 14 (.call 131 [.t 13] [0] []),Qm 15 1,Q 16 (.bin .rem (.t 14) (.t 15)),Qm 4 16] [4] [0])
 (.ret)) (.skip)))
 (.seq (.ay [Qm 17 0,Q 18 (.call 131 [.t 17] [0] []),Qm 5 18] [0,1,5] [0])
 (.seq (.ay [Qm 19 0,Q 20 (.call 131 [.t 19] [0] []),Qm 6 20] [0,1,5,6] [0])
 (.seq (.ay [Qm 21 0,Q 22 (.call 131 [.t 21] [0] []),Qm 7 22] [0,1,5,6,7] [0])
 (.seq (.ay [Qm 23 0,Q 24 (.call 131 [.t 23] [0] []),Qm 8 24] [1,5,6,7,8] [0])
 (.seq (.ay [Qm 25 5,Q 26 (.bin .mul (.t 25) (kI 16777216)),Qm 27 6,Q 28 (.bin .mul (.t 27) (kI 65536)),Q 29 (.bin .add (.t 26) (.t 28)),Qm 30 7,Q 31 (.bin .mul (.t 30) (kI 256)),
   Q 32 (.bin .add (.t 29) (.t 31)),Qm 33 8,Q 34 (.bin .add (.t 32) (.t 33)),Qm 35 1,Q 36 (.bin .rem (.t 34) (.t 35)),Qm 4 36] [4] [0])
 (.ret))))))))
def a4.m:Fn:={np:=2,body:=a4.b,res:=[.tmp 4]}
def a4.k(M:Nat→Option Body):Prop:=M 125=some (.code a4.m)∧cP.k M
def cG.b:C:= .seq (.ay [Q 4 (.mv (.k (.str ⟨#[]⟩)))] [0,1] [0])
 (.seq (.ay [Qm 5 1,Qm 6 0,Qm 7 1,Q 8 (.len (.t 7)),Q 9 (.call 125 [.t 6,.t 8] [0] []),Qa 10 1 5 9,Ql 11 10,Qm 4 11] [4] [0])
 (.ret))
def cG.m:Fn:={np:=2,body:=cG.b,res:=[.tmp 4]}
def cG.k(M:Nat→Option Body):Prop:=M 185=some (.code cG.m)∧a4.k M
def dD.b:C:= .seq (.ay [Q 2 (.mv (.k (.str ⟨#[]⟩)))] [0] [0])
 (.seq (.ay [Qm 3 0,
   Q 4 (.kQ 1 6 [.str ⟨#[]⟩] [(0,.k (.str ⟨#[104,101,108,108,111]⟩)),(1,.k (.str ⟨#[104,105,10]⟩)),(2,.k (.str ⟨#[]⟩)),(3,.k (.str ⟨#[116,101,120,116,32,111,102,32,105,116]⟩)),(4,.k (.str ⟨#[0,255]⟩)),(5,.k (.str ⟨#[97,32,98]⟩))]),
   Q 5 (.call 185 [.t 3,.t 4] [0] []),Qm 2 5] [2] [0])
 (.ret))
def dD.m:Fn:={np:=1,body:=dD.b,res:=[.tmp 2]}
def dD.k(M:Nat→Option Body):Prop:=M 174=some (.code dD.m)∧cG.k M
def eW.b:C:= .seq (.ay [Qb 2 false] [0] [])
 (.seq (.ay [Qm 3 0,Q 4 (.len (.t 3)),Q 5 (.bin .gtr (.t 4) (kI 1048576)),Qm 2 5] [2] [])
 (.ret))
def eW.m:Fn:={np:=1,body:=eW.b,res:=[.tmp 2]}
def eW.k(M:Nat→Option Body):Prop:=M 36=some (.code eW.m)
def dc.b:C:= .seq (.ay [Qb 4 false] [0,1] [0])
 (.seq (.ay [Qm 5 0,Qm 6 1,Q 7 (.call 125 [.t 5,.t 6] [0] []),Q 8 (.bin .eql (.t 7) (kI 0)),Qm 4 8] [4] [0])
 (.ret))
def dc.m:Fn:={np:=2,body:=dc.b,res:=[.tmp 4]}
def dc.k(M:Nat→Option Body):Prop:=M 175=some (.code dc.m)∧a4.k M
def dr.b:C:= .seq (.ay [Q 2 (.alloc [.int .i64 0,.int .i64 0,.bp 7,.bp 1])] [0,2] [2])
 (.seq (.ay [Qm 3 0,Q 4 (.build [.int .i64 0,.int .i64 0,.bp 7,.bp 1] [(0,1,.t 3)]),Qs 4 2 4] [2] [2])
 (.ret))
def dr.m:Fn:={np:=1,body:=dr.b,res:=[.cell 2 true 4]}
def dr.k(M:Nat→Option Body):Prop:=M 113=some (.code dr.m)
def aM.br:C:= .seq (.ay [Qm 59 10,Q 60 (.bin .eql (.t 59) (kI 0)),Qm 61 60,Qg 62 (.mv (.t 13)) 61 false,Qg 63 (.bin .eql (.t 62) (kI 0)) 61 false,Q 64 (.pick (.t 61) (kB true) (.t 63)),Qm 58 64] [0,2,3,5,8,9,10,11,13,58] [0,5,8,15502,15503])
 (.cond (.t 58) (.shut [15502,15503] (.eD [QL 66 4 5,Qm 67 3,Qm 68 9,Q 69 (.bin .add (.t 67) (.t 68)),Qm 70 0,
   Q 71 (.kQ 1 3 [.str ⟨#[]⟩] [(0,.k (.str ⟨#[105,110,98,111,120]⟩)),(1,.k (.str ⟨#[119,111,114,107]⟩)),(2,.k (.str ⟨#[111,108,100]⟩))]),
   Q 72 (.call 185 [.t 70,.t 71] [0] []),Q 73 (.call 278 [.t 66,.t 69,.t 72] [] [(2,15502),(3,15503)]),Qm 65 73,Qx 74 0 65,Qx 75 1 65,Qs 4 5 74] [[],[],[],[1,2],[],[],[4,5],lr 7,lr 8,lr 9,lr 9,lr 10] [0,2,3,5,8,9] [0,5,8,15502,15503])) (.seq (.ay [Qm 77 13,Q 78 (.bin .lss (.t 77) (kI 6)),Qm 76 78] [0,2,3,5,8,9,10,11,13,76] [0,5,8,15502,15503])
 (.cond (.t 76) (.shut [15502,15503] (.eD [QL 80 4 5,Qm 81 10,Qm 82 3,Qm 83 9,Q 84 (.bin .add (.t 82) (.t 83)),Qm 85 0,Q 86 (.call 125 [.t 85,kI 8] [0] []),Qm 87 0,Q 88 (.call 174 [.t 87] [0] []),
   Q 89 (.call 279 [.t 80,.t 81,.t 84,.t 86,.t 88] [] [(2,15502),(3,15503)]),Qm 79 89,Qx 90 0 79,Qx 91 1 79,Qs 4 5 90] [[],[],[],[],[2,3],[],[5],[],[5,6,7],lr 9,lr 10,lr 11,lr 11,lr 12] [0,2,3,5,8,9] [0,5,8,15502,15503])) (.seq (.ay [Qm 93 13,Q 94 (.bin .lss (.t 93) (kI 9)),Qm 92 94] [0,2,3,5,8,9,10,11,13,92] [0,5,8,15502,15503])
 (.cond (.t 92) (.shut [15502,15503] (.eD [QL 96 4 5,Qm 97 10,Qm 98 11,Qm 99 0,Q 100 (.call 125 [.t 99,kI 8] [0] []),Q 101 (.call 280 [.t 96,.t 97,.t 98,.t 100] [] [(2,15502),(3,15503)]),Qm 95 101,Qx 102 0 95,
   Qx 103 1 95,Qs 4 5 102] [[],[],[],[],[3],lr 5,lr 6,lr 7,lr 7,lr 8] [0,2,3,5,8,9] [0,5,8,15502,15503])) (.seq (.ay [Qm 105 13,Q 106 (.bin .eql (.t 105) (kI 9)),Qm 104 106] [0,2,3,5,8,9,10,11,13,104] [0,5,8,15502,15503])
 (.cond (.t 104) (.shut [15502,15503] (.ay [QL 108 4 5,Qm 109 10,Qm 110 11,Q 111 (.call 281 [.t 108,.t 109,.t 110] [] [(2,15502),(3,15503)]),Qm 107 111,Qx 112 0 107,Qx 113 1 107,Qs 4 5 112] [0,2,3,5,8,9] [0,5,8,15502,15503])) (.seq (.ay [Qm 115 13,Q 116 (.bin .eql (.t 115) (kI 10)),Qm 114 116] [0,2,3,5,8,9,10,114] [0,5,8,15502,15503])
 (.cond (.t 114) (.shut [15502,15503] (.eD [QL 118 4 5,Qm 119 10,Qm 120 0,
   Q 121 (.kQ 1 4 [.str ⟨#[]⟩] [(0,.k (.str ⟨#[105,110,98,111,120]⟩)),(1,.k (.str ⟨#[119,111,114,107]⟩)),(2,.k (.str ⟨#[110,101,119]⟩)),(3,.k (.str ⟨#[111,116,104,101,114]⟩))]),
   Q 122 (.call 185 [.t 120,.t 121] [0] []),Q 123 (.call 282 [.t 118,.t 119,.t 122] [] [(2,15502),(3,15503)]),Qm 117 123,Qx 124 0 117,Qx 125 1 117,Qs 4 5 124] [[],[],[],[],[2,3],lr 5,lr 6,lr 7,lr 7,lr 8] [0,2,3,5,8,9] [0,5,8,15502,15503])) (.seq (.ay [Qm 50 0,Q 51 (.call 175 [.t 50,kI 3] [0] [])] [0,2,3,5,8,9,10,51] [0,5,8,15502,15503])
 (.cond (.t 51) (.shut [15502,15503] (.ay [QL 53 4 5,Qm 54 10,Q 55 (.call 283 [.t 53,.t 54] [] [(2,15502),(3,15503)]),Qm 52 55,Qx 56 0 52,Qx 57 1 52,Qs 4 5 56] [0,2,3,5,8,9] [0,5,8,15502,15503])) (.skip))))))))))))
def aM.hd:C:= .seq (.seq (.ay [Qf 19 2 5,Ql 20 19,Q 21 (.len (.t 20)),Q 22 (.bin .gtr (.t 21) (kI 0))] [0,2,3,5,8,9,10,11,22] [0,5,8,15502,15503])
 (.cond (.t 22) (.seq (.eD [Qf 23 2 5,Ql 24 23,Qm 25 0,Qf 26 2 5,Ql 27 26,Q 28 (.len (.t 27)),Q 29 (.call 125 [.t 25,.t 28] [0] []),Qa 30 7 24 29,QL 31 7 30,
   Q 12 (.alloc [.int .i64 0,.str ⟨#[]⟩,.int .i64 0,.int .i64 0,.int .i64 0,.bp 4,.bp 1]),Qs 7 12 31] [[],[0],[],[],[3],[3,4],[2,3,4,5],lr 7,lr 8,[],lr 10] [0,2,3,5,8,9,11,12] [0,5,8,12,15502,15503])
 (.seq (.ay [Qf 32 0 12,Ql 33 32,Qm 10 33] [0,2,3,5,8,9,10,11,12] [0,5,8,12,15502,15503])
 (.seq (.ay [Qf 34 5 12,Ql 35 34,Q 36 (.len (.t 35)),Q 37 (.bin .gtr (.t 36) (kI 0))] [0,2,3,5,8,9,10,11,12,37] [0,5,8,12,15502,15503])
 (.cond (.t 37) (.eD [Qf 38 5 12,Ql 39 38,Qm 40 0,Qf 41 5 12,Ql 42 41,Q 43 (.len (.t 42)),Q 44 (.call 125 [.t 40,.t 43] [0] []),Qa 45 4 39 44,Qf 46 0 45,Ql 47 46,Qm 11 47] [[],[0],[],[],[3],[3,4],[2,3,4,5],lr 7,lr 8,lr 9,lr 10] [0,2,3,5,8,9,10,11] [0,5,8,15502,15503]) (.skip))))) (.skip)))
 (.seq (.ay [Qm 48 0,Q 49 (.call 125 [.t 48,kI 12] [0] []),Qm 13 49] [0,2,3,5,8,9,10,11,13] [0,5,8,15502,15503])
 (.block 2 aM.br))
def aM.l0:C:= .seq (.seq (.ay [Qm 14 9,Qm 15 2,Q 16 (.bin .lss (.t 14) (.t 15))] [0,2,3,5,8,9,16] [0,5,8,15502,15503])
 (.cond (.t 16) (.skip) (.exit 0)))
 (.seq (.block 1 (.seq (.ay [Qi 10 0] [0,2,3,5,8,9,10] [0,5,8,15502,15503])
 (.seq (.ay [Qi 11 0] [0,2,3,5,8,9,10,11] [0,5,8,15502,15503])
 aM.hd)))
 (.ay [Qm 17 9,Q 18 (.bin .add (.t 17) (kI 1)),Qm 9 18] [0,2,3,5,8,9] [0,5,8,15502,15503]))
def aM.b:C:= .seq (.ay [Qv 5 1,Q 8 (.alloc [.int .i64 0,.int .i64 0,.bp 7,.bp 1])] [0,2,3,5,8] [0,5,8,15502,15503])
 (.seq (.seq (.ay [Qi 9 0] [0,2,3,5,8,9] [0,5,8,15502,15503])
 (.block 0 (.loop aM.l0)))
 (.seq (.ay [QL 126 4 5,Qs 4 8 126] [8] [0,8,15502,15503])
 (.ret)))
def aM.m:Fn:={np:=4,body:=aM.b,res:=[.cell 8 true 4]}
def aM.k(M:Nat→Option Body):Prop:=M 244=some (.code aM.m)∧a4.k M∧dD.k M∧dc.k M∧cG.k M∧ba.k M∧cv.k M∧cm.k M∧cn.k M∧bN.k M∧cy.k M
def dq.b:C:= .seq (.ay [Q 2 (.alloc [.int .i64 0,.int .i64 0,.bp 7,.bp 1])] [0,2] [0,2,11302,11303])
 (.seq (.ay [Qm 4 0,Q 5 (.call 125 [.t 4,kI 12] [0] []),Q 6 (.bin .add (kI 2) (.t 5)),Qm 3 6] [0,2,3] [0,2,11302,11303])
 (.seq (.ay [Qm 7 0,Qm 8 0,Q 9 (.call 125 [.t 8,kI 2] [0] []),Q 10 (.bin .add (kI 1) (.t 9)),Q 11 (.call 113 [.t 10] [] []),Qm 12 3,
   Q 13 (.call 244 [.t 7,.t 11,.t 12,kI 100] [0] [(2,11302),(3,11303)]),Qs 4 2 13] [2] [0,2,11302,11303])
 (.ret)))
def dq.m:Fn:={np:=1,body:=dq.b,res:=[.cell 2 true 4]}
def dq.k(M:Nat→Option Body):Prop:=M 188=some (.code dq.m)∧dr.k M∧a4.k M∧aM.k M
def cF.l0:C:= .seq (.seq (.ay [Qm 6 4,Qf 7 5 1,Ql 8 7,Q 9 (.len (.t 8)),Q 10 (.bin .lss (.t 6) (.t 9))] [1,3,4,10] [1,5,21])
 (.cond (.t 10) (.skip) (.exit 0)))
 (.seq (.block 1 (.ay [Qm 13 3,Qf 14 5 1,Ql 15 14,Qm 16 4,Qa 17 4 15 16,Qf 18 0 17,Ql 19 18,Q 20 (.cE 1 1 [.int .i64 0] [(0,.t 19)]),Q 21 (.app 1 8 (.t 13) (.t 20)),Qm 3 21] [1,3,4] [1,5,21]))
 (.ay [Qm 11 4,Q 12 (.bin .add (.t 11) (kI 1)),Qm 4 12] [1,3,4] [1,5,21]))
def cF.b:C:= .seq (.ay [Qv 1 0,Q 2 (.nil 1)] [1] [1])
 (.seq (.ay [Q 5 (.cE 1 0 [.int .i64 0] []),Qm 3 5] [1,3] [1,5,21])
 (.seq (.seq (.ay [Qi 4 0] [1,3,4] [1,5,21])
 (.block 0 (.loop cF.l0)))
 (.seq (.ay [Qm 22 3,Qm 2 22] [2] [2,5,21])
 (.ret))))
def cF.m:Fn:={np:=1,body:=cF.b,res:=[.tmp 2]}
def cF.k(M:Nat→Option Body):Prop:=M 198=some (.code cF.m)
def bO.l0:C:= .seq (.seq (.ay [Qm 33 11,Qf 34 5 2,Ql 35 34,Q 36 (.len (.t 35)),Q 37 (.bin .lss (.t 33) (.t 36))] [2,4,6,8,9,10,11,37] [2,4,6,8,25,11305,15800])
 (.cond (.t 37) (.skip) (.exit 0)))
 (.seq (.block 1 (.seq (.eD [QL 40 7 8,Qf 41 5 2,Ql 42 41,Qm 43 11,Qa 44 1 42 43,Ql 45 44,Q 46 (.call 91 [.t 40,.t 45] [] []),Q 47 (.bin .geq (.t 46) (kI 0))] [[],[],[1],[],[1,2,3],[1,2,3,4],lr 6,lr 7] [2,4,6,8,9,10,11,47] [2,4,6,8,25,11305,15800])
 (.cond (.t 47) (.ay [Qm 48 10,Q 49 (.bin .add (.t 48) (kI 1)),Qm 10 49] [2,4,6,8,9,10,11] [2,4,6,8,25,11305,15800]) (.ay [Qm 50 9,Q 51 (.bin .add (.t 50) (.k (.str ⟨#[42,32]⟩))),Qm 52 10,Q 53 (.bin .add (.t 52) (kI 1)),Q 54 (.call 197 [.t 53] [] []),Q 55 (.bin .add (.t 51) (.t 54)),
   Q 56 (.bin .add (.t 55) (.k (.str ⟨#[32,69,88,80,85,78,71,69,13,10]⟩))),Qm 9 56] [2,4,6,8,9,10,11] [2,4,6,8,25,11305,15800]))))
 (.ay [Qm 38 11,Q 39 (.bin .add (.t 38) (kI 1)),Qm 11 39] [2,4,6,8,9,10,11] [2,4,6,8,25,11305,15800]))
def bO.b:C:= .seq (.ay [Qv 2 0,Qv 3 1,Q 4 (.alloc [.str ⟨#[]⟩,.str ⟨#[]⟩,.bool false,.bool false,.int .i64 0,.bp 1]),Q 5 (.mv (.k (.str ⟨#[]⟩)))] [2,3,4] [2,3,4,25,11305,15800])
 (.seq (.ay [QL 12 6 2,Q 13 (.call 195 [.t 12] [] [(5,11305)]),Q 6 (.alloc [.str ⟨#[]⟩,.str ⟨#[]⟩,.bool false,.bool false,.int .i64 0,.bp 1]),Qs 6 6 13] [2,3,4,6] [2,3,4,6,25,11305,15800])
 (.seq (.seq (.ay [Qf 14 4 2,Ql 15 14,Q 16 (.bin .eql (.t 15) (kI 0))] [2,3,4,6,16] [2,3,4,6,25,11305,15800])
 (.cond (.t 16) (.seq (.ay [QL 17 6 6,Qs 6 4 17,Q 5 (.mv (.k (.str ⟨#[]⟩)))] [4,5] [4,25,11305,15800])
 (.ret)) (.skip)))
 (.seq (.ay [QL 18 4 3,Qf 19 4 2,Ql 20 19,Q 21 (.call 196 [.t 18,.t 20] [] []),Qm 7 21] [2,3,4,6,7] [2,3,4,6,25,11305,15800])
 (.seq (.seq (.ay [Qm 22 7,Q 23 (.bin .lss (.t 22) (kI 0))] [2,3,4,6,7,23] [2,3,4,6,25,11305,15800])
 (.cond (.t 23) (.seq (.ay [Qf 24 4 6,Qn (.store 1 (.t 24) (kI 0))] [4,6] [4,6,25,11305,15800])
 (.seq (.ay [Q 25 (.cE 1 0 [.int .i64 0] []),Qf 26 5 6,Qs 1 26 25] [4,6] [4,6,25,11305,15800])
 (.seq (.ay [QL 27 6 6,Qs 6 4 27,Q 5 (.mv (.k (.str ⟨#[42,32,66,89,69,32,98,111,120,13,10]⟩)))] [4,5] [4,25,11305,15800])
 (.ret)))) (.skip)))
 (.seq (.ay [Qf 28 2 3,Ql 29 28,Qm 30 7,Qa 31 7 29 30,QL 32 7 31,Q 8 (.alloc [.int .i64 0,.str ⟨#[]⟩,.int .i64 0,.int .i64 0,.int .i64 0,.bp 4,.bp 1]),Qs 7 8 32] [2,4,6,8] [2,4,6,8,25,11305,15800])
 (.seq (.ay [Q 9 (.mv (.k (.str ⟨#[]⟩)))] [2,4,6,8,9] [2,4,6,8,25,11305,15800])
 (.seq (.ay [Qi 10 0] [2,4,6,8,9,10] [2,4,6,8,25,11305,15800])
 (.seq (.seq (.ay [Qi 11 0] [2,4,6,8,9,10,11] [2,4,6,8,25,11305,15800])
 (.block 0 (.loop bO.l0)))
 (.seq (.ay [QL 57 7 8,Q 58 (.call 198 [.t 57] [] [(0,15800)]),Qf 59 5 6,Qs 1 59 58] [4,6,9,10] [4,6,25,11305,15800])
 (.seq (.seq (.ay [Qf 60 5 6,Ql 61 60,Q 62 (.len (.t 61)),Qm 63 10,Q 64 (.bin .gtr (.t 62) (.t 63))] [4,6,9,64] [4,6,25,11305,15800])
 (.cond (.t 64) (.ay [Qm 65 9,Q 66 (.bin .add (.t 65) (.k (.str ⟨#[42,32]⟩))),Qf 67 5 6,Ql 68 67,Q 69 (.len (.t 68)),Q 70 (.call 197 [.t 69] [] []),Q 71 (.bin .add (.t 66) (.t 70)),
   Q 72 (.bin .add (.t 71) (.k (.str ⟨#[32,69,88,73,83,84,83,13,10]⟩))),Qm 9 72] [4,6,9] [4,6,25,11305,15800]) (.skip)))
 (.seq (.ay [QL 73 6 6,Qm 74 9,Qs 6 4 73,Qm 5 74] [4,5] [4,25,11305,15800])
 (.ret))))))))))))
def bO.m:Fn:={np:=2,body:=bO.b,res:=[.cell 4 true 6,.tmp 5]}
def bO.k(M:Nat→Option Body):Prop:=M 94=some (.code bO.m)∧aX.k M∧bn.k M∧bJ.k M∧a0.k M∧cF.k M
def aO.b:C:= .seq (.ay [Qi 2 0] [0] [])
 (.seq (.seq (.ay [Qm 3 0] [3] [])
 (.block 0 (.seq (.seq (.ay [Q 5 (.bin .eql (.t 3) (.k (.str ⟨#[76,79,71,73,78]⟩))),Qm 4 5] [3,4] [])
 (.cond (.t 4) (.skip) (.seq (.ay [Q 6 (.bin .eql (.t 3) (.k (.str ⟨#[82,69,78,65,77,69]⟩))),Qm 4 6] [3,4] [])
 (.cond (.t 4) (.skip) (.seq (.ay [Q 7 (.bin .eql (.t 3) (.k (.str ⟨#[65,80,80,69,78,68]⟩))),Qm 4 7] [3,4] [])
 (.cond (.t 4) (.skip) (.ay [Q 8 (.bin .eql (.t 3) (.k (.str ⟨#[83,84,79,82,69]⟩))),Qm 4 8] [3,4] [])))))))
 (.cond (.t 4) (.seq (.ay [Qi 2 3] [2] [])
 (.ret)) (.seq (.seq (.ay [Q 10 (.bin .eql (.t 3) (.k (.str ⟨#[67,82,69,65,84,69]⟩))),Qm 9 10] [3,9] [])
 (.cond (.t 9) (.skip) (.seq (.ay [Q 11 (.bin .eql (.t 3) (.k (.str ⟨#[68,69,76,69,84,69]⟩))),Qm 9 11] [3,9] [])
 (.cond (.t 9) (.skip) (.seq (.ay [Q 12 (.bin .eql (.t 3) (.k (.str ⟨#[83,69,76,69,67,84]⟩))),Qm 9 12] [3,9] [])
 (.cond (.t 9) (.skip) (.seq (.ay [Q 13 (.bin .eql (.t 3) (.k (.str ⟨#[83,84,65,84,85,83]⟩))),Qm 9 13] [3,9] [])
 (.cond (.t 9) (.skip) (.ay [Q 14 (.bin .eql (.t 3) (.k (.str ⟨#[70,69,84,67,72]⟩))),Qm 9 14] [3,9] [])))))))))
 (.cond (.t 9) (.seq (.ay [Qi 2 2] [2] [])
 (.ret)) (.seq (.seq (.ay [Q 16 (.bin .eql (.t 3) (.k (.str ⟨#[78,79,79,80]⟩))),Qm 15 16] [3,15] [])
 (.cond (.t 15) (.skip) (.seq (.ay [Q 17 (.bin .eql (.t 3) (.k (.str ⟨#[76,79,71,79,85,84]⟩))),Qm 15 17] [3,15] [])
 (.cond (.t 15) (.skip) (.seq (.ay [Q 18 (.bin .eql (.t 3) (.k (.str ⟨#[76,73,83,84]⟩))),Qm 15 18] [3,15] [])
 (.cond (.t 15) (.skip) (.ay [Q 19 (.bin .eql (.t 3) (.k (.str ⟨#[69,88,80,85,78,71,69]⟩))),Qm 15 19] [15] [])))))))
 (.cond (.t 15) (.seq (.ay [Qi 2 1] [2] [])
 (.ret)) (.skip)))))))))
 (.seq (.ay [Qi 2 0] [2] [])
 (.ret)))
def aO.m:Fn:={np:=1,body:=aO.b,res:=[.tmp 2]}
def aO.k(M:Nat→Option Body):Prop:=M 307=some (.code aO.m)
def a8.b:C:= .seq (.ay [Qb 2 false] [0] [])
 (.seq (.ay [Qm 3 0,Q 4 (.bin .eql (.t 3) (.k (.str ⟨#[70,69,84,67,72]⟩))),Qm 5 4,Qg 6 (.mv (.t 0)) 5 false,Qg 7 (.bin .eql (.t 6) (.k (.str ⟨#[83,84,79,82,69]⟩))) 5 false,
   Q 8 (.pick (.t 5) (kB true) (.t 7)),Qm 9 8,Qg 10 (.mv (.t 0)) 9 false,Qg 11 (.bin .eql (.t 10) (.k (.str ⟨#[69,88,80,85,78,71,69]⟩))) 9 false,
   Q 12 (.pick (.t 9) (kB true) (.t 11)),Qm 2 12] [2] [])
 (.ret))
def a8.m:Fn:={np:=1,body:=a8.b,res:=[.tmp 2]}
def a8.k(M:Nat→Option Body):Prop:=M 308=some (.code a8.m)
def cU.b:C:= .seq (.ay [Q 2 (.mv (.k (.str ⟨#[]⟩)))] [0] [])
 (.seq (.seq (.ay [Qm 3 0,Q 4 (.bin .lss (.t 3) (kI 0))] [0,4] [])
 (.cond (.t 4) (.seq (.ay [Q 2 (.mv (.k (.str ⟨#[48]⟩)))] [2] [])
 (.ret)) (.skip)))
 (.seq (.ay [Qm 5 0,Q 6 (.call 197 [.t 5] [] []),Qm 2 6] [2] [])
 (.ret)))
def cU.m:Fn:={np:=1,body:=cU.b,res:=[.tmp 2]}
def cU.k(M:Nat→Option Body):Prop:=M 320=some (.code cU.m)∧a0.k M
def bL.l0:C:= .seq (.seq (.ay [Qm 5 4,Qm 6 0,Q 7 (.len (.t 6)),Q 8 (.bin .lss (.t 5) (.t 7)),Qm 9 8,Qg 10 (.mv (.t 4)) 9 true,Qg 11 (.bin .lss (.t 10) (kI 3)) 9 true,Q 12 (.pick (.t 9) (.t 11) (kB false))] [0,3,4,12] [])
 (.cond (.t 12) (.skip) (.exit 0)))
 (.seq (.block 1 (.seq (.ay [Qm 15 0,Qm 16 4,Qa 17 3 15 16,Qf 18 0 17,Ql 19 18,Q 20 (.bin .rem (.t 19) (kI 2)),Q 21 (.bin .neq (.t 20) (kI 0))] [0,3,4,21] [])
 (.cond (.t 21) (.ay [Qm 22 3,Qm 23 4,Q 24 (.qL .u64 (.t 23)),Q 25 (.bin .shl (kI 1) (.t 24)),Q 26 (.bin .add (.t 22) (.t 25)),Qm 3 26] [0,3,4] []) (.skip))))
 (.ay [Qm 13 4,Q 14 (.bin .add (.t 13) (kI 1)),Qm 4 14] [0,3,4] []))
def bL.b:C:= .seq (.ay [Qi 2 0] [0] [])
 (.seq (.ay [Qi 3 0] [0,3] [])
 (.seq (.seq (.ay [Qi 4 0] [0,3,4] [])
 (.block 0 (.loop bL.l0)))
 (.seq (.ay [Qm 27 3,Qm 2 27] [2] [])
 (.ret))))
def bL.m:Fn:={np:=1,body:=bL.b,res:=[.tmp 2]}
def bL.k(M:Nat→Option Body):Prop:=M 321=some (.code bL.m)
def aY.l0:C:= .seq (.seq (.ay [Qm 20 11,Qf 21 2 5,Ql 22 21,Q 23 (.len (.t 22)),Q 24 (.bin .lss (.t 20) (.t 23))] [5,10,11,24] [0,5])
 (.cond (.t 24) (.skip) (.exit 0)))
 (.seq (.block 1 (.seq (.ay [Qf 28 2 5,Ql 29 28,Qm 30 11,Qa 31 7 29 30,Qf 32 1 31,Ql 33 32,Q 34 (.call 319 [.t 33] [] []),Qm 27 34,Qx 35 0 27,Qx 36 1 27,Qm 12 35,Qm 13 36] [5,10,11,12] [0,5])
 (.ay [Qm 37 10,Q 38 (.bin .add (.t 37) (.k (.str ⟨#[42,32,76,73,83,84,32]⟩))),Qm 39 12,Q 40 (.bin .add (.t 38) (.t 39)),Q 41 (.bin .add (.t 40) (.k (.str ⟨#[13,10]⟩))),
   Qm 10 41] [5,10,11] [0,5])))
 (.ay [Qm 25 11,Q 26 (.bin .add (.t 25) (kI 1)),Qm 11 26] [5,10,11] [0,5]))
def aY.b:C:= .seq (.ay [Qv 5 1,Q 8 (.mv (.k (.str ⟨#[]⟩))),Qb 9 false] [0,2,3,5] [0,5,55])
 (.seq (.seq (.ay [Qm 18 2,Q 19 (.bin .eql (.t 18) (.k (.str ⟨#[76,73,83,84]⟩)))] [0,2,3,5,19] [0,5,55])
 (.cond (.t 19) (.seq (.ay [Q 10 (.mv (.k (.str ⟨#[]⟩)))] [5,10] [0,5])
 (.seq (.seq (.ay [Qi 11 0] [5,10,11] [0,5])
 (.block 0 (.loop aY.l0)))
 (.seq (.ay [Qm 42 10,Qm 8 42,Qb 9 true] [8,9] [0])
 (.ret)))) (.skip)))
 (.seq (.eD [QL 43 4 5,Qm 44 3,Q 45 (.eM 2 (.t 44) (kI 0)),Qf 46 1 45,Ql 47 46,Q 48 (.call 226 [.t 43,.t 47] [] []),Qm 14 48] [[],[],[1],[1,2],[1,2,3],lr 5,lr 6] [0,2,5,14] [0,5,55])
 (.seq (.seq (.ay [Qm 49 2,Q 50 (.bin .eql (.t 49) (.k (.str ⟨#[83,69,76,69,67,84]⟩)))] [0,2,5,14,50] [0,5,55])
 (.cond (.t 50) (.seq (.ay [Qm 51 0,Q 52 (.dx (.t 51)),Qf 53 4 52,Qn (.store 1 (.t 53) (kI 0))] [0,2,5,14] [0,5,55])
 (.ay [Qm 54 0,Q 55 (.kQ 1 0 [.int .i64 0] []),Q 56 (.dx (.t 54)),Qf 57 5 56,Qs 1 57 55] [0,2,5,14] [0,5,55])) (.skip)))
 (.seq (.seq (.ay [Qm 58 14,Q 59 (.bin .lss (.t 58) (kI 0))] [0,2,5,14,59] [0,5,55])
 (.cond (.t 59) (.seq (.ay [Q 8 (.mv (.k (.str ⟨#[]⟩))),Qb 9 false] [8,9] [0,55])
 (.ret)) (.skip)))
 (.seq (.ay [Qf 60 2 5,Ql 61 60,Qm 62 14,Qa 63 7 61 62,QL 64 7 63,Q 15 (.alloc [.int .i64 0,.str ⟨#[]⟩,.int .i64 0,.int .i64 0,.int .i64 0,.bp 4,.bp 1]),Qs 7 15 64] [0,2,15] [0,15,55])
 (.seq (.seq (.ay [Qm 65 2,Q 66 (.bin .eql (.t 65) (.k (.str ⟨#[83,84,65,84,85,83]⟩)))] [0,15,66] [0,15,55])
 (.cond (.t 66) (.seq (.ay [Qf 68 1 15,Ql 69 68,Q 70 (.call 319 [.t 69] [] []),Qm 67 70,Qx 71 0 67,Qx 72 1 67,Qm 16 71,Qm 17 72] [15,16] [0,15])
 (.seq (.eD [Qm 73 16,Q 74 (.bin .add (.k (.str ⟨#[42,32,83,84,65,84,85,83,32]⟩)) (.t 73)),Q 75 (.bin .add (.t 74) (.k (.str ⟨#[32]⟩))),Qf 76 5 15,Ql 77 76,Q 78 (.len (.t 77)),
   Q 79 (.call 197 [.t 78] [] []),Q 80 (.bin .add (.t 75) (.t 79)),Q 81 (.bin .add (.t 80) (.k (.str ⟨#[32]⟩))),Qf 82 4 15,Ql 83 82,Q 84 (.call 320 [.t 83] [] []),
   Q 85 (.bin .add (.t 81) (.t 84)),Q 86 (.bin .add (.t 85) (.k (.str ⟨#[13,10]⟩))),Qm 8 86,Qb 9 true] [[],[0],[0,1],[],[3],[3,4],[3,4,5],lr 7,lr 8,[],[9],[3,4,5,6,9,10],lr 12,lr 13,lr 14,lr 15] [8,9] [0])
 (.ret))) (.skip)))
 (.seq (.ay [Qm 87 0,Qf 88 0 15,Ql 89 88,Q 90 (.dx (.t 87)),Qf 91 4 90,Qs 1 91 89] [0,15] [0,15,55])
 (.seq (.ay [Qm 92 0,QL 93 7 15,Q 94 (.call 198 [.t 93] [] []),Q 95 (.dx (.t 92)),Qf 96 5 95,Qs 1 96 94] [15] [0,15])
 (.seq (.eD [Qf 97 5 15,Ql 98 97,Q 99 (.len (.t 98)),Q 100 (.call 197 [.t 99] [] []),Q 101 (.bin .add (.k (.str ⟨#[42,32]⟩)) (.t 100)),
   Q 102 (.bin .add (.t 101) (.k (.str ⟨#[32,69,88,73,83,84,83,13,10,42,32,79,75,32,78,69,88,84,32]⟩))),Qf 103 4 15,Ql 104 103,Q 105 (.call 320 [.t 104] [] []),
   Q 106 (.bin .add (.t 102) (.t 105)),Q 107 (.bin .add (.t 106) (.k (.str ⟨#[13,10]⟩))),Qm 8 107,Qb 9 true] [[],[0],[0,1],[0,1,2],lr 4,lr 5,[],[6],lr 4++[6,7],lr 9,lr 10,lr 11,lr 12] [8,9] [0])
 (.ret))))))))))
def aY.m:Fn:={np:=4,body:=aY.b,res:=[.tmp 8,.tmp 9]}
def aY.k(M:Nat→Option Body):Prop:=M 309=some (.code aY.m)∧a0.k M∧cF.k M∧bg.k M∧a_.k M∧cU.k M
def bF.l0:C:= .seq (.seq (.ay [Qm 11 8,Qm 12 2,Q 13 (.len (.t 12)),Q 14 (.bin .lss (.t 11) (.t 13))] [1,2,3,7,8,14] [3])
 (.cond (.t 14) (.skip) (.exit 0)))
 (.seq (.block 1 (.seq (.eD [QL 17 7 3,Qm 18 1,Qm 19 2,Qm 20 8,Qa 21 1 19 20,Ql 22 21,Q 23 (.bin .sub (.t 22) (kI 1)),Qa 24 1 18 23,Ql 25 24,Q 26 (.call 91 [.t 17,.t 25] [] []),Qm 9 26] [[],[],[],[],[2,3],[2,3,4],[2,3,4,5],[1,2,3,4,5,6],[1,2,3,4,5,6,7],lr 9,lr 10] [1,2,3,7,8,9] [3])
 (.seq (.seq (.ay [Qm 27 9,Q 28 (.bin .lss (.t 27) (kI 0))] [1,2,3,7,8,9,28] [3])
 (.cond (.t 28) (.exit 1) (.skip)))
 (.seq (.ay [Qf 29 5 3,Ql 30 29,Qm 31 9,Qa 32 4 30 31,QL 33 4 32,Q 10 (.alloc [.int .i64 0,.int .i64 0,.bp 3,.str ⟨#[]⟩]),Qs 4 10 33] [1,2,3,7,8,10] [3,10])
 (.eD [Qm 34 7,Q 35 (.bin .add (.t 34) (.k (.str ⟨#[42,32]⟩))),Qm 36 2,Qm 37 8,Qa 38 1 36 37,Ql 39 38,Q 40 (.call 197 [.t 39] [] []),Q 41 (.bin .add (.t 35) (.t 40)),
   Q 42 (.bin .add (.t 41) (.k (.str ⟨#[32,70,69,84,67,72,32]⟩))),Qf 43 1 10,Ql 44 43,Q 45 (.call 320 [.t 44] [] []),Q 46 (.bin .add (.t 42) (.t 45)),
   Q 47 (.bin .add (.t 46) (.k (.str ⟨#[32]⟩))),Qf 48 2 10,Ql 49 48,Q 50 (.call 321 [.t 49] [] []),Q 51 (.call 197 [.t 50] [] []),Q 52 (.bin .add (.t 47) (.t 51)),
   Q 53 (.bin .add (.t 52) (.k (.str ⟨#[32]⟩))),Qf 54 3 10,Ql 55 54,Q 56 (.build [.int .i64 0,.str ⟨#[]⟩] [(0,1,kI 2),(1,1,.t 55)]),Q 57 (.call 328 [.t 56] [] []),
   Q 58 (.bin .add (.t 53) (.t 57)),Q 59 (.bin .add (.t 58) (.k (.str ⟨#[13,10]⟩))),Qm 7 59] [[],[0],[],[],[2,3],[2,3,4],[2,3,4,5],lr 7,lr 8,[],[9],[2,3,4,5,6,9,10],lr 12,lr 13,[],[14],[2,3,4,5,6,9,10,11,14,15],[2,3,4,5,6,9,10,11,14,15,16],lr 18,lr 19,[],[20],[20,21],[2,3,4,5,6,9,10,11,14,15,16,17,20,21,22],lr 24,lr 25,lr 26] [1,2,3,7,8] [3])))))
 (.ay [Qm 15 8,Q 16 (.bin .add (.t 15) (kI 1)),Qm 8 16] [1,2,3,7,8] [3]))
def bF.b:C:= .seq (.ay [Qv 3 0,Q 6 (.mv (.k (.str ⟨#[]⟩)))] [1,2,3] [3])
 (.seq (.ay [Q 7 (.mv (.k (.str ⟨#[]⟩)))] [1,2,3,7] [3])
 (.seq (.seq (.ay [Qi 8 0] [1,2,3,7,8] [3])
 (.block 0 (.loop bF.l0)))
 (.seq (.ay [Qm 60 7,Qm 6 60] [6] [])
 (.ret))))
def bF.m:Fn:={np:=3,body:=bF.b,res:=[.tmp 6]}
def bF.k(M:Nat→Option Body):Prop:=M 324=some (.code bF.m)∧aX.k M∧a0.k M∧cU.k M∧bL.k M∧cu.k M
def aw.l0:C:= .seq (.seq (.ay [Qm 48 15,Qm 49 14,Q 50 (.len (.t 49)),Q 51 (.bin .lss (.t 48) (.t 50))] [0,11,12,14,15,51] [0,12,25,40,45,83,175])
 (.cond (.t 51) (.skip) (.exit 0)))
 (.seq (.block 1 (.seq (.eD [QL 54 7 12,Qm 55 14,Qm 56 15,Qa 57 1 55 56,Ql 58 57,Q 59 (.call 91 [.t 54,.t 58] [] []),Qm 16 59] [[],[],[],[1,2],[1,2,3],lr 5,lr 6] [0,11,12,14,15,16] [0,12,25,40,45,83,175])
 (.seq (.ay [Qm 60 16,Q 61 (.bin .geq (.t 60) (kI 0)),Qm 62 61,Qg 63 (.cS 5 (.t 12)) 62 true,Qg 64 (.load false 1 (.t 63)) 62 true,Qg 65 (.mv (.t 16)) 62 true,
   Qg 66 (.eM 4 (.t 64) (.t 65)) 62 true,Qg 67 (.cS 2 (.t 66)) 62 true,Qg 68 (.load false 1 (.t 67)) 62 true,Qg 69 (.call 321 [.t 68] [] []) 62 true,
   Qg 70 (.bin .geq (.t 69) (kI 4)) 62 true,Q 71 (.pick (.t 62) (.t 70) (kB false))] [0,11,12,14,15,71] [0,12,25,40,45,83,175])
 (.cond (.t 71) (.eD [Qm 72 11,Qm 73 0,Q 74 (.dx (.t 73)),Qf 75 4 74,Ql 76 75,Qm 77 14,Qm 78 15,Qa 79 1 77 78,Ql 80 79,
   Q 81 (.build [.int .i64 0,.int .i64 0,.int .i64 0,.int .i64 0,.str ⟨#[]⟩] [(0,1,kI 6),(1,1,.t 76),(2,1,.t 80)]),
   Q 82 (.cE 5 1 [.int .i64 0,.int .i64 0,.int .i64 0,.int .i64 0,.str ⟨#[]⟩] [(0,.t 81)]),Q 83 (.app 5 48 (.t 72) (.t 82)),Qm 11 83] [[],[],[1],[1,2],[1,2,3],[],[],[5,6],[5,6,7],[1,2,3,4,5,6,7,8],[1,2,3,4,5,6,7,8,9],lr 11,lr 12] [0,11,12,14,15] [0,12,25,40,45,83,175]) (.skip)))))
 (.ay [Qm 52 15,Q 53 (.bin .add (.t 52) (kI 1)),Qm 15 53] [0,11,12,14,15] [0,12,25,40,45,83,175]))
def aw.l1:C:= .seq (.seq (.ay [Qm 139 24,Qm 140 19,Q 141 (.len (.t 140)),Q 142 (.bin .lss (.t 139) (.t 141))] [0,11,12,14,19,23,24,142] [0,12,25,40,45,83,175])
 (.cond (.t 142) (.skip) (.exit 2)))
 (.seq (.block 3 (.seq (.eD [QL 145 7 12,Qm 146 14,Qm 147 19,Qm 148 24,Qa 149 1 147 148,Ql 150 149,Q 151 (.bin .sub (.t 150) (kI 1)),Qa 152 1 146 151,Ql 153 152,Q 154 (.call 91 [.t 145,.t 153] [] []),
   Q 155 (.bin .geq (.t 154) (kI 0))] [[],[],[],[],[2,3],[2,3,4],[2,3,4,5],[1,2,3,4,5,6],[1,2,3,4,5,6,7],lr 9,lr 10] [0,11,12,14,19,23,24,155] [0,12,25,40,45,83,175])
 (.cond (.t 155) (.eD [Qm 156 11,Qm 157 0,Q 158 (.dx (.t 157)),Qf 159 4 158,Ql 160 159,Qm 161 14,Qm 162 19,Qm 163 24,Qa 164 1 162 163,Ql 165 164,Q 166 (.bin .sub (.t 165) (kI 1)),
   Qa 167 1 161 166,Ql 168 167,Qm 169 23,Q 170 (.idx (.t 169) (kI 0)),Q 171 (.qL .i64 (.t 170)),Q 172 (.bin .sub (.t 171) (kI 48)),
   Q 173 (.build [.int .i64 0,.int .i64 0,.int .i64 0,.int .i64 0,.str ⟨#[]⟩] [(0,1,kI 5),(1,1,.t 160),(2,1,.t 168),(3,1,.t 172)]),
   Q 174 (.cE 5 1 [.int .i64 0,.int .i64 0,.int .i64 0,.int .i64 0,.str ⟨#[]⟩] [(0,.t 173)]),Q 175 (.app 5 48 (.t 156) (.t 174)),Qm 11 175] [[],[],[1],[1,2],[1,2,3],[],[],[],[6,7],[6,7,8],[6,7,8,9],[5,6,7,8,9,10],[5,6,7,8,9,10,11],[],[13],[13,14],[13,14,15],[1,2,3,4,5,6,7,8,9,10,11,12,13,14,15,16],[1,2,3,4,5,6,7,8,9,10,11,12,13,14,15,16,17],lr 19,lr 20] [0,11,12,14,19,23,24] [0,12,25,40,45,83,175]) (.skip))))
 (.ay [Qm 143 24,Q 144 (.bin .add (.t 143) (kI 1)),Qm 24 144] [0,11,12,14,19,23,24] [0,12,25,40,45,83,175]))
def aw.b:C:= .seq (.ay [Qv 5 1,Q 8 (.mv (.k (.str ⟨#[]⟩))),Q 9 (.nil 5),Qb 10 false] [0,2,3,5] [0,5])
 (.seq (.ay [Q 25 (.cE 5 0 [.int .i64 0,.int .i64 0,.int .i64 0,.int .i64 0,.str ⟨#[]⟩] []),Qm 11 25] [0,2,3,5,11] [0,5,25,83,175])
 (.seq (.ay [Q 26 (.build [.int .i64 0,.str ⟨#[]⟩,.int .i64 0,.int .i64 0,.int .i64 0,.bp 4,.bp 1] []),
   Q 12 (.alloc [.int .i64 0,.str ⟨#[]⟩,.int .i64 0,.int .i64 0,.int .i64 0,.bp 4,.bp 1]),Qs 7 12 26] [0,2,3,5,11,12] [0,5,12,25,83,175])
 (.seq (.eD [QL 27 4 5,Qm 28 0,Q 29 (.dx (.t 28)),Qf 30 4 29,Ql 31 30,Q 32 (.call 196 [.t 27,.t 31] [] []),Qm 13 32] [[],[],[1],[1,2],[1,2,3],lr 5,lr 6] [0,2,3,5,11,12,13] [0,5,12,25,83,175])
 (.seq (.seq (.ay [Qm 33 13,Q 34 (.bin .geq (.t 33) (kI 0))] [0,2,3,5,11,12,13,34] [0,5,12,25,83,175])
 (.cond (.t 34) (.ay [Qf 35 2 5,Ql 36 35,Qm 37 13,Qa 38 7 36 37,QL 39 7 38,Qs 7 12 39] [0,2,3,5,11,12] [0,5,12,25,83,175]) (.skip)))
 (.seq (.ay [Q 40 (.cE 1 0 [.int .i64 0] []),Qm 41 0,Q 42 (.dx (.t 41)),Qf 43 5 42,Ql 44 43,Q 45 (.app 1 8 (.t 40) (.t 44)),Qm 14 45] [0,2,3,5,11,12,14] [0,5,12,25,40,45,83,175])
 (.seq (.seq (.ay [Qm 46 2,Q 47 (.bin .eql (.t 46) (.k (.str ⟨#[69,88,80,85,78,71,69]⟩)))] [0,2,3,5,11,12,14,47] [0,5,12,25,40,45,83,175])
 (.cond (.t 47) (.seq (.seq (.ay [Qi 15 0] [0,11,12,14,15] [0,12,25,40,45,83,175])
 (.block 0 (.loop aw.l0)))
 (.seq (.ay [Qm 84 11,Q 8 (.mv (.k (.str ⟨#[]⟩))),Qm 9 84,Qb 10 true] [8,9,10] [0,9,25,83,175])
 (.ret))) (.skip)))
 (.seq (.ay [Qm 86 3,Q 87 (.eM 2 (.t 86) (kI 0)),Qf 88 1 87,Ql 89 88,Q 90 (.call 322 [.t 89] [] []),Qm 85 90,Qx 91 0 85,Qx 92 1 85,Qm 17 91,Qm 18 92] [0,2,3,5,11,12,14,17,18] [0,5,12,25,40,45,83,175])
 (.seq (.seq (.ay [Qm 93 18,Q 94 (.not (.t 93))] [0,2,3,5,11,12,14,17,94] [0,5,12,25,40,45,83,175])
 (.cond (.t 94) (.seq (.ay [Qm 95 11,Q 8 (.mv (.k (.str ⟨#[]⟩))),Qm 9 95,Qb 10 false] [8,9,10] [0,9,25,83,175])
 (.ret)) (.skip)))
 (.seq (.ay [Qm 96 17,Qm 97 14,Q 98 (.len (.t 97)),Q 99 (.call 323 [.t 96,.t 98] [] []),Qm 19 99] [0,2,3,5,11,12,14,19] [0,5,12,25,40,45,83,175])
 (.seq (.seq (.ay [Qm 100 2,Q 101 (.bin .eql (.t 100) (.k (.str ⟨#[70,69,84,67,72]⟩)))] [0,3,5,11,12,14,19,101] [0,5,12,25,40,45,83,175])
 (.cond (.t 101) (.seq (.ay [QL 102 7 12,Qm 103 14,Qm 104 19,Q 105 (.call 324 [.t 102,.t 103,.t 104] [] []),Qm 20 105] [0,5,11,20] [0,5,25,83,175])
 (.seq (.eD [Qm 107 0,Q 108 (.dx (.t 107)),QL 109 6 108,QL 110 4 5,Q 111 (.call 94 [.t 109,.t 110] [] []),Qm 106 111,Qx 112 0 106,Qx 113 1 106,
   Q 21 (.alloc [.str ⟨#[]⟩,.str ⟨#[]⟩,.bool false,.bool false,.int .i64 0,.bp 1]),Qs 6 21 112,Qm 22 113] [[],[0],[0,1],[],lr 4,lr 5,lr 6,lr 6,[],lr 7++[8],lr 10] [0,11,20,21,22] [0,21,25,83,175])
 (.seq (.ay [Qm 114 0,QL 115 6 21,Q 116 (.dx (.t 114)),Qs 6 116 115] [11,20,22] [0,25,83,175])
 (.seq (.ay [Qm 117 22,Qm 118 20,Q 119 (.bin .add (.t 117) (.t 118)),Qm 120 11,Qm 8 119,Qm 9 120,Qb 10 true] [8,9,10] [0,9,25,83,175])
 (.ret))))) (.skip)))
 (.seq (.ay [Qm 121 3,Q 122 (.eM 2 (.t 121) (kI 1)),Qf 123 1 122,Ql 124 123,Qm 23 124] [0,11,12,14,19,23] [0,12,25,40,45,83,175])
 (.seq (.seq (.ay [Qm 125 23,Q 126 (.gJ (.t 125)),Q 127 (.bin .neq (.t 126) (kI 1)),Qm 128 127,Qg 129 (.mv (.t 23)) 128 false,Qg 130 (.idx (.t 129) (kI 0)) 128 false,
   Qg 131 (.bin .lss (.t 130) (.k (.int .u8 48))) 128 false,Q 132 (.pick (.t 128) (kB true) (.t 131)),Qm 133 132,Qg 134 (.mv (.t 23)) 133 false,
   Qg 135 (.idx (.t 134) (kI 0)) 133 false,Qg 136 (.bin .gtr (.t 135) (.k (.int .u8 55))) 133 false,Q 137 (.pick (.t 133) (kB true) (.t 136))] [0,11,12,14,19,23,137] [0,12,25,40,45,83,175])
 (.cond (.t 137) (.seq (.ay [Qm 138 11,Q 8 (.mv (.k (.str ⟨#[]⟩))),Qm 9 138,Qb 10 false] [8,9,10] [0,9,25,83,175])
 (.ret)) (.skip)))
 (.seq (.seq (.ay [Qi 24 0] [0,11,12,14,19,23,24] [0,12,25,40,45,83,175])
 (.block 2 (.loop aw.l1)))
 (.seq (.ay [Qm 176 11,Q 8 (.mv (.k (.str ⟨#[]⟩))),Qm 9 176,Qb 10 true] [8,9,10] [0,9,25,83,175])
 (.ret)))))))))))))))
def aw.m:Fn:={np:=4,body:=aw.b,res:=[.tmp 8,.tmp 9,.tmp 10]}
def aw.k(M:Nat→Option Body):Prop:=M 310=some (.code aw.m)∧aX.k M∧bO.k M∧bJ.k M∧bL.k M∧aS.k M∧bU.k M∧bF.k M
def bQ.b:C:= .seq (.ay [Qv 4 0,Q 8 (.alloc [.int .i64 0,.int .i64 0,.int .i64 0,.int .i64 0,.str ⟨#[]⟩]),Qb 9 false] [1,2,3,4,8] [4,8])
 (.seq (.ay [Qi 10 (-1)] [1,2,3,4,8,10] [4,8])
 (.seq (.seq (.ay [Qm 12 3,Q 13 (.len (.t 12)),Q 14 (.bin .gtr (.t 13) (kI 0))] [1,2,3,4,8,10,14] [4,8])
 (.cond (.t 14) (.eD [QL 15 4 4,Qm 16 3,Q 17 (.eM 2 (.t 16) (kI 0)),Qf 18 1 17,Ql 19 18,Q 20 (.call 226 [.t 15,.t 19] [] []),Qm 10 20] [[],[],[1],[1,2],[1,2,3],lr 5,lr 6] [1,2,3,4,8,10] [4,8]) (.skip)))
 (.seq (.seq (.ay [Qm 21 2,Q 22 (.bin .eql (.t 21) (.k (.str ⟨#[67,82,69,65,84,69]⟩)))] [1,2,3,4,8,10,22] [4,8])
 (.cond (.t 22) (.seq (.ay [Qm 23 1,Qm 24 3,Q 25 (.eM 2 (.t 24) (kI 0)),Qf 26 1 25,Ql 27 26,
   Q 28 (.build [.int .i64 0,.int .i64 0,.int .i64 0,.int .i64 0,.str ⟨#[]⟩] [(0,1,kI 1),(1,1,.t 23),(4,1,.t 27)]),Qs 5 8 28,Qb 9 true] [8,9] [8])
 (.ret)) (.skip)))
 (.seq (.seq (.ay [Qm 29 10,Q 30 (.bin .lss (.t 29) (kI 0))] [1,2,3,4,8,10,30] [4,8])
 (.cond (.t 30) (.seq (.ay [Q 31 (.build [.int .i64 0,.int .i64 0,.int .i64 0,.int .i64 0,.str ⟨#[]⟩] []),Qs 5 8 31,Qb 9 false] [8,9] [8])
 (.ret)) (.skip)))
 (.seq (.ay [Qf 32 2 4,Ql 33 32,Qm 34 10,Qa 35 7 33 34,Qf 36 0 35,Ql 37 36,Qm 11 37] [1,2,3,8,11] [8])
 (.seq (.seq (.ay [Qm 38 2] [1,3,8,11,38] [8])
 (.block 0 (.seq (.ay [Q 40 (.bin .eql (.t 38) (.k (.str ⟨#[68,69,76,69,84,69]⟩))),Qm 39 40] [1,3,8,11,38,39] [8])
 (.cond (.t 39) (.seq (.ay [Qm 41 11,Q 42 (.build [.int .i64 0,.int .i64 0,.int .i64 0,.int .i64 0,.str ⟨#[]⟩] [(0,1,kI 3),(1,1,.t 41)]),Qs 5 8 42,Qb 9 true] [8,9] [8])
 (.ret)) (.seq (.ay [Q 44 (.bin .eql (.t 38) (.k (.str ⟨#[82,69,78,65,77,69]⟩))),Qm 43 44] [1,3,8,11,43] [8])
 (.cond (.t 43) (.seq (.ay [Qm 45 11,Qm 46 3,Q 47 (.eM 2 (.t 46) (kI 1)),Qf 48 1 47,Ql 49 48,
   Q 50 (.build [.int .i64 0,.int .i64 0,.int .i64 0,.int .i64 0,.str ⟨#[]⟩] [(0,1,kI 2),(1,1,.t 45),(4,1,.t 49)]),Qs 5 8 50,Qb 9 true] [8,9] [8])
 (.ret)) (.skip)))))))
 (.seq (.ay [Qm 51 11,Qm 52 1,Qm 53 3,Q 54 (.eM 2 (.t 53) (kI 1)),Qf 55 1 54,Ql 56 55,
   Q 57 (.build [.int .i64 0,.int .i64 0,.int .i64 0,.int .i64 0,.str ⟨#[]⟩] [(0,1,kI 4),(1,1,.t 51),(2,1,.t 52),(4,1,.t 56)]),Qs 5 8 57,Qb 9 true] [8,9] [8])
 (.ret))))))))
def bQ.m:Fn:={np:=4,body:=bQ.b,res:=[.cell 8 true 5,.tmp 9]}
def bQ.k(M:Nat→Option Body):Prop:=M 311=some (.code bQ.m)∧bg.k M
def av.b:C:= .seq (.ay [Qv 4 0,Qv 5 1,Q 8 (.alloc [.str ⟨#[]⟩,.str ⟨#[]⟩,.bool false,.bool false,.int .i64 0,.bp 1]),Q 9 (.mv (.k (.str ⟨#[]⟩))),Q 10 (.mv (.k (.str ⟨#[]⟩))),Q 11 (.nil 5)] [2,3,4,5,8] [4,5,8,13105,19405])
 (.seq (.ay [QL 30 6 4,Q 31 (.call 195 [.t 30] [] []),Q 12 (.alloc [.str ⟨#[]⟩,.str ⟨#[]⟩,.bool false,.bool false,.int .i64 0,.bp 1]),Qs 6 12 31] [2,3,4,5,8,12] [4,5,8,12,13105,19405])
 (.seq (.ay [Q 32 (.cE 5 0 [.int .i64 0,.int .i64 0,.int .i64 0,.int .i64 0,.str ⟨#[]⟩] []),Qm 13 32] [2,3,4,5,8,12,13] [4,5,8,12,32,13105,19405])
 (.seq (.seq (.ay [Qm 33 3,Q 34 (.len (.t 33)),Q 35 (.bin .lss (.t 34) (kI 2)),Qm 36 35,Qg 37 (.mv (.t 3)) 36 false,Qg 38 (.eM 2 (.t 37) (kI 0)) 36 false,Qg 39 (.cS 0 (.t 38)) 36 false,
   Qg 40 (.load false 1 (.t 39)) 36 false,Qg 41 (.bin .neq (.t 40) (kI 1)) 36 false,Q 42 (.pick (.t 36) (kB true) (.t 41)),Qm 43 42,Qg 44 (.mv (.t 3)) 43 false,
   Qg 45 (.eM 2 (.t 44) (kI 1)) 43 false,Qg 46 (.cS 0 (.t 45)) 43 false,Qg 47 (.load false 1 (.t 46)) 43 false,Qg 48 (.bin .neq (.t 47) (kI 1)) 43 false,
   Q 49 (.pick (.t 43) (kB true) (.t 48))] [2,3,4,5,8,12,13,49] [4,5,8,12,32,13105,19405])
 (.cond (.t 49) (.seq (.ay [QL 50 6 12,Qm 51 13,Qs 6 8 50,Q 9 (.mv (.k (.str ⟨#[42,32,66,65,68,13,10]⟩))),Q 10 (.mv (.k (.str ⟨#[]⟩))),Qm 11 51] [8,9,10,11] [8,11,32,194,13105,19405,25401])
 (.ret)) (.skip)))
 (.seq (.ay [Qm 52 3,Q 53 (.eM 2 (.t 52) (kI 0)),Qf 54 1 53,Ql 55 54,Qm 14 55] [2,3,4,5,8,12,13,14] [4,5,8,12,32,13105,19405])
 (.seq (.ay [Qm 56 3,Q 57 (.eM 2 (.t 56) (kI 1)),Qf 58 1 57,Ql 59 58,Qm 15 59] [2,3,4,5,8,12,13,14,15] [4,5,8,12,32,13105,19405])
 (.seq (.ay [Qm 60 3,Q 61 (.tW 2 (.t 60) (some (kI 2)) none none),Qm 16 61] [2,3,4,5,8,12,13,14,15,16] [4,5,8,12,32,13105,19405])
 (.seq (.ay [Qm 62 14,Q 63 (.bin .add (.t 62) (.k (.str ⟨#[32,66,65,68,13,10]⟩))),Qm 17 63] [2,3,4,5,8,12,13,14,15,16,17] [4,5,8,12,32,13105,19405])
 (.seq (.ay [Qm 64 14,Q 65 (.bin .add (.t 64) (.k (.str ⟨#[32,78,79,13,10]⟩))),Qm 18 65] [2,3,4,5,8,12,13,14,15,16,17,18] [4,5,8,12,32,13105,19405])
 (.seq (.ay [Qm 66 14,Q 67 (.bin .add (.t 66) (.k (.str ⟨#[32,79,75,13,10]⟩))),Qm 19 67] [2,3,4,5,8,12,13,15,16,17,18,19] [4,5,8,12,32,13105,19405])
 (.seq (.ay [Qm 68 15,Q 69 (.call 307 [.t 68] [] []),Qm 20 69] [2,3,4,5,8,12,13,15,16,17,18,19,20] [4,5,8,12,32,13105,19405])
 (.seq (.seq (.ay [Qm 70 20,Q 71 (.bin .eql (.t 70) (kI 0)),Qm 72 71,Qg 73 (.mv (.t 3)) 72 false,Qg 74 (.len (.t 73)) 72 false,Qg 75 (.mv (.t 20)) 72 false,
   Qg 76 (.bin .add (.t 75) (kI 1)) 72 false,Qg 77 (.bin .neq (.t 74) (.t 76)) 72 false,Q 78 (.pick (.t 72) (kB true) (.t 77))] [2,4,5,8,12,13,15,16,17,18,19,78] [4,5,8,12,32,13105,19405])
 (.cond (.t 78) (.seq (.ay [QL 79 6 12,Qm 80 17,Qm 81 13,Qs 6 8 79,Qm 9 80,Q 10 (.mv (.k (.str ⟨#[]⟩))),Qm 11 81] [8,9,10,11] [8,11,32,194,13105,19405,25401])
 (.ret)) (.skip)))
 (.seq (.seq (.ay [Qm 82 15] [2,4,5,8,12,13,15,16,17,18,19,82] [4,5,8,12,32,13105,19405])
 (.block 0 (.seq (.ay [Q 84 (.bin .eql (.t 82) (.k (.str ⟨#[76,79,71,73,78]⟩))),Qm 83 84] [2,4,5,8,12,13,15,16,17,18,19,82,83] [4,5,8,12,32,13105,19405])
 (.cond (.t 83) (.seq (.ay [Qf 85 2 12,Qn (.store 1 (.t 85) (kB true))] [8,12,13,19] [8,12,32,13105,19405])
 (.seq (.ay [QL 86 6 12,Qm 87 19,Qm 88 13,Qs 6 8 86,Qm 9 87,Q 10 (.mv (.k (.str ⟨#[]⟩))),Qm 11 88] [8,9,10,11] [8,11,32,194,13105,19405,25401])
 (.ret))) (.seq (.ay [Q 90 (.bin .eql (.t 82) (.k (.str ⟨#[78,79,79,80]⟩))),Qm 89 90] [2,4,5,8,12,13,15,16,17,18,19,82,89] [4,5,8,12,32,13105,19405])
 (.cond (.t 89) (.seq (.ay [QL 92 6 4,QL 93 4 5,Q 94 (.call 94 [.t 92,.t 93] [] []),Qm 91 94,Qx 95 0 91,Qx 96 1 91,
   Q 21 (.alloc [.str ⟨#[]⟩,.str ⟨#[]⟩,.bool false,.bool false,.int .i64 0,.bp 1]),Qs 6 21 95,Qm 22 96] [8,13,19,21,22] [8,21,32,13105,19405])
 (.seq (.ay [QL 97 6 21,Qm 98 22,Qm 99 19,Q 100 (.bin .add (.t 98) (.t 99)),Qm 101 13,Qs 6 8 97,Qm 9 100,Q 10 (.mv (.k (.str ⟨#[]⟩))),Qm 11 101] [8,9,10,11] [8,11,32,194,13105,19405,25401])
 (.ret))) (.seq (.ay [Q 103 (.bin .eql (.t 82) (.k (.str ⟨#[76,79,71,79,85,84]⟩))),Qm 102 103] [2,4,5,8,12,13,15,16,17,18,19,102] [4,5,8,12,32,13105,19405])
 (.cond (.t 102) (.seq (.ay [Qf 104 3 12,Qn (.store 1 (.t 104) (kB true))] [8,12,13,19] [8,12,32,13105,19405])
 (.seq (.ay [QL 105 6 12,Qm 106 19,Q 107 (.bin .add (.k (.str ⟨#[42,32,66,89,69,13,10]⟩)) (.t 106)),Qm 108 13,Qs 6 8 105,Qm 9 107,Q 10 (.mv (.k (.str ⟨#[]⟩))),Qm 11 108] [8,9,10,11] [8,11,32,194,13105,19405,25401])
 (.ret))) (.skip)))))))))
 (.seq (.seq (.ay [Qf 109 2 4,Ql 110 109,Q 111 (.not (.t 110)),Qm 112 111,Qg 113 (.mv (.t 15)) 112 false,Qg 114 (.call 308 [.t 113] [] []) 112 false,Qg 115 (.mv (.t 114)) 112 false,
   Qg 116 (.cS 4 (.t 4)) 115 true,Qg 117 (.load false 1 (.t 116)) 115 true,Qg 118 (.bin .eql (.t 117) (kI 0)) 115 true,Qg 119 (.pick (.t 115) (.t 118) (kB false)) 112 false,
   Q 120 (.pick (.t 112) (kB true) (.t 119))] [2,5,8,12,13,15,16,17,18,19,120] [5,8,12,32,13105,19405])
 (.cond (.t 120) (.seq (.ay [QL 121 6 12,Qm 122 17,Qm 123 13,Qs 6 8 121,Qm 9 122,Q 10 (.mv (.k (.str ⟨#[]⟩))),Qm 11 123] [8,9,10,11] [8,11,32,194,13105,19405,25401])
 (.ret)) (.skip)))
 (.seq (.seq (.ay [Qm 124 15] [2,5,8,12,13,15,16,17,18,19,124] [5,8,12,32,13105,19405])
 (.block 1 (.seq (.seq (.ay [Q 126 (.bin .eql (.t 124) (.k (.str ⟨#[76,73,83,84]⟩))),Qm 125 126] [2,5,8,12,13,15,16,17,18,19,124,125] [5,8,12,32,13105,19405])
 (.cond (.t 125) (.skip) (.seq (.ay [Q 127 (.bin .eql (.t 124) (.k (.str ⟨#[83,69,76,69,67,84]⟩))),Qm 125 127] [2,5,8,12,13,15,16,17,18,19,124,125] [5,8,12,32,13105,19405])
 (.cond (.t 125) (.skip) (.ay [Q 128 (.bin .eql (.t 124) (.k (.str ⟨#[83,84,65,84,85,83]⟩))),Qm 125 128] [2,5,8,12,13,15,16,17,18,19,124,125] [5,8,12,32,13105,19405])))))
 (.cond (.t 125) (.seq (.shut [] (.ay [QL 130 4 5,Qm 131 15,Qm 132 16,Q 133 (.call 309 [.t 12,.t 130,.t 131,.t 132] [0] []),Qm 129 133,Qx 134 0 129,Qx 135 1 129,Qm 23 134,Qm 24 135] [8,12,13,18,19,23,24] [8,12,32,13105,19405]))
 (.seq (.seq (.ay [Qm 136 24,Q 137 (.not (.t 136))] [8,12,13,18,19,23,137] [8,12,32,13105,19405])
 (.cond (.t 137) (.seq (.ay [QL 138 6 12,Qm 139 18,Qm 140 13,Qs 6 8 138,Qm 9 139,Q 10 (.mv (.k (.str ⟨#[]⟩))),Qm 11 140] [8,9,10,11] [8,11,32,194,13105,19405,25401])
 (.ret)) (.skip)))
 (.seq (.ay [QL 141 6 12,Qm 142 23,Qm 143 19,Q 144 (.bin .add (.t 142) (.t 143)),Qm 145 13,Qs 6 8 141,Qm 9 144,Q 10 (.mv (.k (.str ⟨#[]⟩))),Qm 11 145] [8,9,10,11] [8,11,32,194,13105,19405,25401])
 (.ret)))) (.seq (.seq (.ay [Q 147 (.bin .eql (.t 124) (.k (.str ⟨#[70,69,84,67,72]⟩))),Qm 146 147] [2,5,8,12,13,15,16,17,18,19,124,146] [5,8,12,32,13105,19405])
 (.cond (.t 146) (.skip) (.seq (.ay [Q 148 (.bin .eql (.t 124) (.k (.str ⟨#[83,84,79,82,69]⟩))),Qm 146 148] [2,5,8,12,13,15,16,17,18,19,124,146] [5,8,12,32,13105,19405])
 (.cond (.t 146) (.skip) (.ay [Q 149 (.bin .eql (.t 124) (.k (.str ⟨#[69,88,80,85,78,71,69]⟩))),Qm 146 149] [2,5,8,12,13,15,16,17,18,19,146] [5,8,12,32,13105,19405])))))
 (.cond (.t 146) (.seq (.shut [] (.ay [QL 151 4 5,Qm 152 15,Qm 153 16,Q 154 (.call 310 [.t 12,.t 151,.t 152,.t 153] [0] []),Qm 150 154,Qx 155 0 150,Qx 156 1 150,Qx 157 2 150,Qm 25 155,Qm 26 156,
   Qm 27 157] [8,12,13,17,18,19,25,26,27] [8,12,32,13105,19405,25401]))
 (.seq (.seq (.ay [Qm 158 27,Q 159 (.not (.t 158))] [8,12,13,17,18,19,25,26,159] [8,12,32,13105,19405,25401])
 (.cond (.t 159) (.seq (.ay [QL 160 6 12,Qm 161 17,Qm 162 13,Qs 6 8 160,Qm 9 161,Q 10 (.mv (.k (.str ⟨#[]⟩))),Qm 11 162] [8,9,10,11] [8,11,32,194,13105,19405,25401])
 (.ret)) (.skip)))
 (.seq (.seq (.ay [Qm 163 26,Q 164 (.len (.t 163)),Q 165 (.bin .eql (.t 164) (kI 0))] [8,12,18,19,25,26,165] [8,12,13105,19405,25401])
 (.cond (.t 165) (.seq (.ay [QL 166 6 12,Qm 167 25,Qm 168 19,Q 169 (.bin .add (.t 167) (.t 168)),Qm 170 26,Qs 6 8 166,Qm 9 169,Q 10 (.mv (.k (.str ⟨#[]⟩))),Qm 11 170] [8,9,10,11] [8,11,32,194,13105,19405,25401])
 (.ret)) (.skip)))
 (.seq (.ay [QL 171 6 12,Qm 172 25,Qm 173 19,Q 174 (.bin .add (.t 172) (.t 173)),Qm 175 18,Qm 176 26,Qs 6 8 171,Qm 9 174,Qm 10 175,Qm 11 176] [8,9,10,11] [8,11,32,194,13105,19405,25401])
 (.ret))))) (.skip)))))))
 (.seq (.ay [QL 178 4 5,Qm 179 2,Qm 180 15,Qm 181 16,Q 182 (.call 311 [.t 178,.t 179,.t 180,.t 181] [] []),Qm 177 182,Qx 183 0 177,Qx 184 1 177,
   Q 28 (.alloc [.int .i64 0,.int .i64 0,.int .i64 0,.int .i64 0,.str ⟨#[]⟩]),Qs 5 28 183,Qm 29 184] [8,12,13,18,19,28,29] [8,12,28,32,13105,19405])
 (.seq (.seq (.ay [Qm 185 29,Q 186 (.not (.t 185))] [8,12,13,18,19,28,186] [8,12,28,32,13105,19405])
 (.cond (.t 186) (.seq (.ay [QL 187 6 12,Qm 188 18,Qm 189 13,Qs 6 8 187,Qm 9 188,Q 10 (.mv (.k (.str ⟨#[]⟩))),Qm 11 189] [8,9,10,11] [8,11,32,194,13105,19405,25401])
 (.ret)) (.skip)))
 (.seq (.eD [QL 190 6 12,Qm 191 19,Qm 192 18,QL 193 5 28,Q 194 (.cE 5 1 [.int .i64 0,.int .i64 0,.int .i64 0,.int .i64 0,.str ⟨#[]⟩] [(0,.t 193)]),Qs 6 8 190,Qm 9 191,Qm 10 192,
   Qm 11 194] [[],[],[],[],[3],[0],[0,1,5],[0,1,2,5,6],lr 8] [8,9,10,11] [8,11,32,194,13105,19405,25401])
 (.ret))))))))))))))))))
def av.m:Fn:={np:=4,body:=av.b,res:=[.cell 8 true 6,.tmp 9,.tmp 10,.tmp 11]}
def av.k(M:Nat→Option Body):Prop:=M 287=some (.code av.m)∧bO.k M∧bn.k M∧aO.k M∧a8.k M∧aY.k M∧aw.k M∧bQ.k M
def dC.b:C:= .seq (.ay [Q 2 (.mv (.k (.str ⟨#[]⟩)))] [0] [0])
 (.seq (.ay [Qm 3 0,
   Q 4 (.kQ 1 23 [.str ⟨#[]⟩] [(0,.k (.str ⟨#[97,32,76,79,71,73,78,32,97,110,110,32,120]⟩)),(1,.k (.str ⟨#[98,32,83,69,76,69,67,84,32,105,110,98,111,120]⟩)),(2,.k (.str ⟨#[98,32,83,69,76,69,67,84,32,119,111,114,107]⟩)),(3,.k (.str ⟨#[99,32,67,82,69,65,84,69,32,105,110,98,111,120]⟩)),(4,.k (.str ⟨#[99,32,67,82,69,65,84,69,32,110,101,119]⟩)),(5,.k (.str ⟨#[100,32,65,80,80,69,78,68,32,105,110,98,111,120,32,34,104,105,32,116,104,101,114,101,34]⟩)),(6,.k (.str ⟨#[100,32,65,80,80,69,78,68,32,105,110,98,111,120,32,123,51,125,13,10,97,98,99]⟩)),(7,.k (.str ⟨#[101,32,70,69,84,67,72,32,49,58,42]⟩)),(8,.k (.str ⟨#[101,32,70,69,84,67,72,32,50,44,49]⟩)),(9,.k (.str ⟨#[102,32,83,84,79,82,69,32,49,32,52]⟩)),(10,.k (.str ⟨#[102,32,83,84,79,82,69,32,49,58,42,32,49]⟩)),(11,.k (.str ⟨#[103,32,69,88,80,85,78,71,69]⟩)),(12,.k (.str ⟨#[104,32,78,79,79,80]⟩)),(13,.k (.str ⟨#[105,32,76,73,83,84]⟩)),(14,.k (.str ⟨#[106,32,83,84,65,84,85,83,32,105,110,98,111,120]⟩)),(15,.k (.str ⟨#[107,32,82,69,78,65,77,69,32,105,110,98,111,120,32,111,108,100]⟩)),(16,.k (.str ⟨#[108,32,68,69,76,69,84,69,32,119,111,114,107]⟩)),(17,.k (.str ⟨#[109,32,76,79,71,79,85,84]⟩)),(18,.k (.str ⟨#[110,32,87,72,65,84]⟩)),(19,.k (.str ⟨#[111,32,70,69,84,67,72,32,120]⟩)),(20,.k (.str ⟨#[112,32,83,84,79,82,69,32,49,32,57]⟩)),(21,.k (.str ⟨#[113]⟩)),(22,.k (.str ⟨#[34,114,34,32,78,79,79,80]⟩))]),
   Q 5 (.call 185 [.t 3,.t 4] [0] []),Qm 2 5] [2] [0])
 (.ret))
def dC.m:Fn:={np:=1,body:=dC.b,res:=[.tmp 2]}
def dC.k(M:Nat→Option Body):Prop:=M 285=some (.code dC.m)∧cG.k M
def aR.l0:C:= .seq (.seq (.ay [Qm 19 7,Qm 20 0,Q 21 (.call 125 [.t 20,kI 4] [0] []),Q 22 (.bin .lss (.t 19) (.t 21))] [0,3,4,5,6,7,22] [0,3,4,5,18,11205,15105])
 (.cond (.t 22) (.skip) (.exit 0)))
 (.seq (.block 1 (.seq (.ay [Qm 25 0,Q 26 (.call 285 [.t 25] [0] []),Q 27 (.bin .add (.t 26) (.k (.str ⟨#[13,10]⟩))),Qm 8 27] [0,3,4,5,6,7,8] [0,3,4,5,18,11205,15105])
 (.seq (.seq (.ay [Qm 28 7,Q 29 (.bin .lss (.t 28) (kI 2)),Qm 30 29,Qg 31 (.mv (.t 0)) 30 true,Qg 32 (.call 175 [.t 31,kI 6] [0] []) 30 true,Qg 33 (.not (.t 32)) 30 true,
   Q 34 (.pick (.t 30) (.t 33) (kB false))] [0,3,4,5,6,7,8,34] [0,3,4,5,18,11205,15105])
 (.cond (.t 34) (.ay [Qm 35 6,Qm 36 7,Qa 37 1 35 36,Ql 38 37,Qm 8 38] [0,3,4,5,6,7,8] [0,3,4,5,18,11205,15105]) (.skip)))
 (.seq (.ay [Qm 40 8,Q 41 (.call 286 [.t 40] [] []),Qm 39 41,Qx 42 0 39,Qx 43 1 39,Qx 44 2 39,Qm 9 42,Qm 10 43,Qm 11 44] [0,3,4,5,6,7,9,11] [0,3,4,5,18,11205,15105])
 (.seq (.ay [Qm 45 11,Q 46 (.bin .eql (.t 45) (kI 0))] [0,3,4,5,6,7,9,46] [0,3,4,5,18,11205,15105])
 (.cond (.t 46) (.ay [QL 48 6 5,QL 49 4 3,Qm 50 9,Q 51 (.call 287 [.t 48,.t 49,kI 950,.t 50] [] []),Qm 47 51,Qx 52 0 47,Qx 53 1 47,Qx 54 2 47,Qx 55 3 47,Qs 6 5 52] [0,3,4,5,6,7] [0,3,4,5,18,11205,15105]) (.skip)))))))
 (.ay [Qm 23 7,Q 24 (.bin .add (.t 23) (kI 1)),Qm 7 24] [0,3,4,5,6,7] [0,3,4,5,18,11205,15105]))
def aR.b:C:= .seq (.ay [Qv 3 1,Q 4 (.alloc [.str ⟨#[]⟩,.str ⟨#[]⟩,.bool false,.bool false,.int .i64 0,.bp 1])] [0,3,4] [0,3,4,11205,15105])
 (.seq (.ay [Q 12 (.call 284 [] [] []),Q 5 (.alloc [.str ⟨#[]⟩,.str ⟨#[]⟩,.bool false,.bool false,.int .i64 0,.bp 1]),Qs 6 5 12] [0,3,4,5] [0,3,4,5,11205,15105])
 (.seq (.ay [Qm 13 0,Q 14 (.kQ 1 2 [.str ⟨#[]⟩] [(0,.k (.str ⟨#[105,110,98,111,120]⟩)),(1,.k (.str ⟨#[119,111,114,107]⟩))]),Q 15 (.call 185 [.t 13,.t 14] [0] []),
   Q 16 (.bin .add (.k (.str ⟨#[98,32,83,69,76,69,67,84,32]⟩)) (.t 15)),Q 17 (.bin .add (.t 16) (.k (.str ⟨#[13,10]⟩))),
   Q 18 (.cE 1 2 [.str ⟨#[]⟩] [(0,.k (.str ⟨#[97,32,76,79,71,73,78,32,97,110,110,32,120,13,10]⟩)),(1,.t 17)]),Qm 6 18] [0,3,4,5,6] [0,3,4,5,18,11205,15105])
 (.seq (.seq (.ay [Qi 7 0] [0,3,4,5,6,7] [0,3,4,5,18,11205,15105])
 (.block 0 (.loop aR.l0)))
 (.seq (.ay [QL 56 6 5,Qs 6 4 56] [4] [0,4,11205,15105])
 (.ret)))))
def aR.m:Fn:={np:=2,body:=aR.b,res:=[.cell 4 true 6]}
def aR.k(M:Nat→Option Body):Prop:=M 245=some (.code aR.m)∧a4.k M∧dc.k M∧cG.k M∧cZ.k M∧dC.k M∧aG.k M∧av.k M
def bt.b:C:= .seq (.ay [Qv 3 1,Q 4 (.alloc [.str ⟨#[]⟩,.str ⟨#[]⟩,.bool false,.bool false,.int .i64 0,.bp 1])] [0,3,4] [0,3,4,23,11505])
 (.seq (.ay [Qm 8 0,Q 9 (.call 125 [.t 8,kI 12] [0] []),Qm 5 9] [0,3,4,5] [0,3,4,23,11505])
 (.seq (.ay [Qm 10 0,Q 11 (.call 125 [.t 10,kI 60] [0] []),Qm 6 11] [0,3,4,5,6] [0,3,4,23,11505])
 (.seq (.ay [Qm 12 0,QL 13 4 3,Q 14 (.call 245 [.t 12,.t 13] [0] []),Q 15 (.call 195 [.t 14] [] [(5,11505)]),
   Q 7 (.alloc [.str ⟨#[]⟩,.str ⟨#[]⟩,.bool false,.bool false,.int .i64 0,.bp 1]),Qs 6 7 15] [4,5,6,7] [0,4,7,23,11505])
 (.seq (.seq (.ay [Qm 16 5] [4,6,7,16] [0,4,7,23,11505])
 (.block 0 (.seq (.ay [Q 18 (.bin .eql (.t 16) (kI 0)),Qm 17 18] [4,6,7,16,17] [0,4,7,23,11505])
 (.cond (.t 17) (.ay [Qf 19 5 7,Ql 20 19,Qm 21 6,Q 22 (.cE 1 1 [.int .i64 0] [(0,.t 21)]),Q 23 (.app 1 8 (.t 20) (.t 22)),Qf 24 5 7,Qs 1 24 23] [4,7] [0,4,7,23,11505]) (.seq (.ay [Q 26 (.bin .eql (.t 16) (kI 1)),Qm 25 26] [4,6,7,16,25] [0,4,7,23,11505])
 (.cond (.t 25) (.ay [Qm 27 6,Qf 28 4 7,Qs 1 28 27] [4,7] [0,4,7,23,11505]) (.seq (.ay [Q 30 (.bin .eql (.t 16) (kI 2)),Qm 29 30] [4,7,16,29] [0,4,7,23,11505])
 (.cond (.t 29) (.ay [Qf 31 3 7,Qn (.store 1 (.t 31) (kB true))] [4,7] [0,4,7,23,11505]) (.seq (.ay [Q 33 (.bin .eql (.t 16) (kI 3)),Qm 32 33] [4,7,16,32] [0,4,7,23,11505])
 (.cond (.t 32) (.ay [Qf 34 2 7,Ql 35 34,Q 36 (.not (.t 35)),Qf 37 2 7,Qs 1 37 36] [4,7] [0,4,7,23,11505]) (.seq (.ay [Q 39 (.bin .eql (.t 16) (kI 4)),Qm 38 39] [4,7,38] [0,4,7,23,11505])
 (.cond (.t 38) (.seq (.ay [Qf 40 5 7,Ql 41 40,Q 42 (.len (.t 41)),Q 43 (.bin .gtr (.t 42) (kI 0))] [4,7,43] [0,4,7,23,11505])
 (.cond (.t 43) (.ay [Qf 44 5 7,Ql 45 44,Q 46 (.tW 1 (.t 45) (some (kI 1)) none none),Qf 47 5 7,Qs 1 47 46] [4,7] [0,4,7,23,11505]) (.skip))) (.skip)))))))))))))
 (.seq (.shut [11505] (.ay [QL 48 6 7,Qs 6 4 48] [4] [0,4,23,11505]))
 (.ret))))))
def bt.m:Fn:={np:=2,body:=bt.b,res:=[.cell 4 true 6]}
def bt.k(M:Nat→Option Body):Prop:=M 189=some (.code bt.m)∧a4.k M∧bn.k M∧aR.k M
def du.b:C:= .seq (.ay [Q 2 (.alloc [.str ⟨#[]⟩,.str ⟨#[]⟩,.bool false,.bool false,.int .i64 0,.bp 1]),Q 3 (.alloc [.int .i64 0,.int .i64 0,.bp 7,.bp 1])] [0,2,3] [2,3,10902,10903,11205])
 (.seq (.ay [Qm 6 0,Q 7 (.call 124 [.t 6] [] [(0,10700)]),Qm 4 7] [2,3,4] [2,3,10700,10902,10903,11205])
 (.seq (.ay [Qm 8 4,Q 9 (.call 188 [.t 8] [0] []),Q 5 (.alloc [.int .i64 0,.int .i64 0,.bp 7,.bp 1]),Qs 4 5 9] [2,3,4,5] [2,3,5,10700,10902,10903,11205])
 (.seq (.eD [Qm 10 4,QL 11 4 5,Q 12 (.call 189 [.t 10,.t 11] [0] []),QL 13 4 5,Qs 6 2 12,Qs 4 3 13] [[],[],[0,1],[],[0,1,2],lr 5] [2,3] [2,3,10902,10903,11205])
 (.ret))))
def du.m:Fn:={np:=1,body:=du.b,res:=[.cell 2 true 6,.cell 3 true 4]}
def du.k(M:Nat→Option Body):Prop:=M 92=some (.code du.m)∧cV.k M∧dq.k M∧bt.k M
def dL.b:C:= .seq (.ay [Qv 2 0,Qb 3 false] [1,2] [2])
 (.seq (.ay [Qf 4 0 2,Ql 5 4,Ql 6 1,Q 7 (.bin .eql (.t 5) (.t 6)),Qm 3 7] [3] [])
 (.ret))
def dL.m:Fn:={np:=2,body:=dL.b,res:=[.tmp 3]}
def dL.k(M:Nat→Option Body):Prop:=M 199=some (.code dL.m)
def ec.b:C:= .seq (.ay [Qv 2 0,Qv 3 1,Qi 4 0] [2,3] [2,3])
 (.seq (.ay [Qf 5 2 2,Ql 6 5,Q 7 (.qF 199 [.t 3]),Q 8 (.call 200 [.t 6,.t 7] [] []),Qm 4 8] [4] [])
 (.ret))
def ec.m:Fn:={np:=2,body:=ec.b,res:=[.tmp 4]}
def ec.k(M:Nat→Option Body):Prop:=M 95=some (.code ec.m)∧dL.k M∧aF.k M
def dI.l0:C:= .seq (.ay [Q 9 (.bin .lss (.t 8) (.t 7))] [3,6,7,8,9] [])
 (.seq (.cond (.t 9) (.skip) (.exit 0))
 (.seq (.block 1 (.seq (.ay [Qm 10 8,Qa 11 1 6 8,Ql 12 11,Qm 4 10,Qm 5 12] [3,4,5,6,7,8] [])
 (.seq (.seq (.ay [Qm 13 4,Q 14 (.bin .gtr (.t 13) (kI 0))] [3,5,6,7,8,14] [])
 (.cond (.t 14) (.ay [Qm 15 3,Q 16 (.bin .add (.t 15) (.k (.str ⟨#[32]⟩))),Qm 3 16] [3,5,6,7,8] []) (.skip)))
 (.ay [Qm 17 3,Qm 18 5,Q 19 (.bin .add (.t 17) (.t 18)),Qm 3 19] [3,6,7,8] []))))
 (.ay [Q 20 (.bin .add (.t 8) (kI 1)),Qm 8 20] [3,6,7,8] [])))
def dI.b:C:= .seq (.ay [Q 2 (.mv (.k (.str ⟨#[]⟩)))] [0] [])
 (.seq (.ay [Q 3 (.mv (.k (.str ⟨#[]⟩)))] [0,3] [])
 (.seq (.seq (.ay [Qm 6 0,Q 7 (.len (.t 6)),Qi 8 0] [3,6,7,8] [])
 (.block 0 (.loop dI.l0)))
 (.seq (.ay [Qm 21 3,Q 22 (.bin .add (.t 21) (.k (.str ⟨#[13,10]⟩))),Qm 2 22] [2] [])
 (.ret))))
def dI.m:Fn:={np:=1,body:=dI.b,res:=[.tmp 2]}
def dI.k(M:Nat→Option Body):Prop:=M 191=some (.code dI.m)
def dh.l0:C:= .seq (.ay [Q 11 (.bin .lss (.t 10) (.t 9))] [3,8,9,10,11] [6,18])
 (.seq (.cond (.t 11) (.skip) (.exit 0))
 (.seq (.block 1 (.seq (.ay [Qa 12 4 8 10,QL 13 4 12,Q 5 (.alloc [.int .i64 0,.int .i64 0,.bp 3,.str ⟨#[]⟩]),Qs 4 5 13] [3,5,8,9,10] [5,6,18])
 (.ay [Qm 14 3,Qf 15 0 5,Ql 16 15,Q 17 (.cE 1 1 [.int .i64 0] [(0,.t 16)]),Q 18 (.app 1 8 (.t 14) (.t 17)),Qm 3 18] [3,8,9,10] [6,18])))
 (.ay [Q 19 (.bin .add (.t 10) (kI 1)),Qm 10 19] [3,8,9,10] [6,18])))
def dh.b:C:= .seq (.ay [Qv 1 0,Q 2 (.nil 1)] [1] [1])
 (.seq (.ay [Q 6 (.cE 1 0 [.int .i64 0] []),Qm 3 6] [1,3] [1,6,18])
 (.seq (.seq (.ay [Qf 7 5 1,Ql 8 7,Q 9 (.len (.t 8)),Qi 10 0] [3,8,9,10] [6,18])
 (.block 0 (.loop dh.l0)))
 (.seq (.ay [Qm 20 3,Qm 2 20] [2] [2,6,18])
 (.ret))))
def dh.m:Fn:={np:=1,body:=dh.b,res:=[.tmp 2]}
def dh.k(M:Nat→Option Body):Prop:=M 192=some (.code dh.m)
def aQ.l0:C:= .seq (.ay [Q 9 (.bin .lss (.t 8) (.t 7))] [0,1,7,8,9] [])
 (.seq (.cond (.t 9) (.skip) (.exit 0))
 (.seq (.block 1 (.seq (.ay [Qm 10 8,Qm 5 10] [0,1,5,7,8] [])
 (.seq (.ay [Qm 11 1,Qm 12 0,Qm 13 5,Qa 14 1 12 13,Ql 15 14,Q 16 (.lz (.t 11) [.t 15])] [0,1,5,7,8,16] [])
 (.cond (.t 16) (.seq (.ay [Qm 17 5,Qm 4 17] [4] [])
 (.ret)) (.skip)))))
 (.ay [Q 18 (.bin .add (.t 8) (kI 1)),Qm 8 18] [0,1,7,8] [])))
def aQ.b:C:= .seq (.ay [Qi 4 0] [0,1] [])
 (.seq (.seq (.ay [Qm 6 0,Q 7 (.len (.t 6)),Qi 8 0] [0,1,7,8] [])
 (.block 0 (.loop aQ.l0)))
 (.seq (.ay [Qi 4 (-1)] [4] [])
 (.ret)))
def aQ.m:Fn:={np:=2,body:=aQ.b,res:=[.tmp 4]}
def aQ.k(M:Nat→Option Body):Prop:=M 246=some (.code aQ.m)
def bf.b:C:= .seq (.ay [Qb 4 false] [0,1] [])
 (.seq (.ay [Qm 5 0,Qm 6 1,Q 7 (.call 246 [.t 5,.t 6] [] []),Q 8 (.bin .geq (.t 7) (kI 0)),Qm 4 8] [4] [])
 (.ret))
def bf.m:Fn:={np:=2,body:=bf.b,res:=[.tmp 4]}
def bf.k(M:Nat→Option Body):Prop:=M 194=some (.code bf.m)∧aQ.k M
def ee.b:C:= .seq (.ay [Qb 3 false] [0,1] [])
 (.seq (.ay [Qf 4 5 1,Ql 5 4,Qm 6 0,Q 7 (.call 156 [.t 5,.t 6] [] []),Q 8 (.not (.t 7)),Qm 3 8] [3] [])
 (.ret))
def ee.m:Fn:={np:=2,body:=ee.b,res:=[.tmp 3]}
def ee.k(M:Nat→Option Body):Prop:=M 193=some (.code ee.m)∧bd.k M
def cj.l0:C:= .seq (.ay [Q 41 (.bin .lss (.t 40) (.t 39))] [2,4,6,8,9,10,38,39,40,41] [2,4,6,26,11405,13600])
 (.seq (.cond (.t 41) (.skip) (.exit 0))
 (.seq (.block 1 (.seq (.ay [Qa 42 1 38 40,Ql 43 42,Qm 12 43] [2,4,6,8,9,10,12,38,39,40] [2,4,6,26,11405,13600])
 (.seq (.ay [Qm 44 8,Qm 45 12,Q 46 (.call 156 [.t 44,.t 45] [] [])] [2,4,6,8,9,10,38,39,40,46] [2,4,6,26,11405,13600])
 (.cond (.t 46) (.ay [Qm 47 10,Q 48 (.bin .add (.t 47) (kI 1)),Qm 10 48] [2,4,6,8,9,10,38,39,40] [2,4,6,26,11405,13600]) (.ay [Qm 49 9,Qm 50 10,Q 51 (.call 128 [.t 50] [] []),Q 52 (.kQ 1 3 [.str ⟨#[]⟩] [(0,.k (.str ⟨#[42]⟩)),(1,.t 51),(2,.k (.str ⟨#[69,88,80,85,78,71,69]⟩))]),
   Q 53 (.call 191 [.t 52] [] []),Q 54 (.bin .add (.t 49) (.t 53)),Qm 9 54] [2,4,6,8,9,10,38,39,40] [2,4,6,26,11405,13600])))))
 (.ay [Q 55 (.bin .add (.t 40) (kI 1)),Qm 40 55] [2,4,6,8,9,10,38,39,40] [2,4,6,26,11405,13600])))
def cj.b:C:= .seq (.ay [Qv 2 0,Qv 3 1,Q 4 (.alloc [.str ⟨#[]⟩,.str ⟨#[]⟩,.bool false,.bool false,.int .i64 0,.bp 1]),Q 5 (.mv (.k (.str ⟨#[]⟩)))] [2,3,4] [2,3,4,26,11405,13600])
 (.seq (.ay [QL 13 6 2,Q 14 (.call 190 [.t 13] [] [(5,11405)]),Q 6 (.alloc [.str ⟨#[]⟩,.str ⟨#[]⟩,.bool false,.bool false,.int .i64 0,.bp 1]),Qs 6 6 14] [2,3,4,6] [2,3,4,6,26,11405,13600])
 (.seq (.seq (.ay [Qf 15 4 2,Ql 16 15,Q 17 (.bin .eql (.t 16) (kI 0))] [2,3,4,6,17] [2,3,4,6,26,11405,13600])
 (.cond (.t 17) (.seq (.ay [QL 18 6 6,Qs 6 4 18,Q 5 (.mv (.k (.str ⟨#[]⟩)))] [4,5] [4,26,11405,13600])
 (.ret)) (.skip)))
 (.seq (.ay [QL 19 4 3,Qf 20 4 2,Ql 21 20,Q 22 (.call 95 [.t 19,.t 21] [] []),Qm 7 22] [2,3,4,6,7] [2,3,4,6,26,11405,13600])
 (.seq (.seq (.ay [Qm 23 7,Q 24 (.bin .lss (.t 23) (kI 0))] [2,3,4,6,7,24] [2,3,4,6,26,11405,13600])
 (.cond (.t 24) (.seq (.ay [Qf 25 4 6,Qn (.store 1 (.t 25) (kI 0))] [4,6] [4,6,26,11405,13600])
 (.seq (.ay [Q 26 (.cE 1 0 [.int .i64 0] []),Qf 27 5 6,Qs 1 27 26] [4,6] [4,6,26,11405,13600])
 (.seq (.eD [QL 28 6 6,Q 29 (.kQ 1 1 [.str ⟨#[]⟩] [(0,.k (.str ⟨#[42,32,66,89,69,32,98,111,120]⟩))]),Q 30 (.call 191 [.t 29] [] []),Qs 6 4 28,Qm 5 30] [[],[],[1],[0,1,2],lr 4] [4,5] [4,26,11405,13600])
 (.ret)))) (.skip)))
 (.seq (.ay [Qf 31 2 3,Ql 32 31,Qm 33 7,Qa 34 7 32 33,QL 35 7 34,Q 36 (.call 192 [.t 35] [] [(0,13600)]),Qm 8 36] [2,4,6,8] [2,4,6,26,11405,13600])
 (.seq (.ay [Q 9 (.mv (.k (.str ⟨#[]⟩)))] [2,4,6,8,9] [2,4,6,26,11405,13600])
 (.seq (.ay [Qi 10 1] [2,4,6,8,9,10] [2,4,6,26,11405,13600])
 (.seq (.seq (.ay [Qf 37 5 2,Ql 38 37,Q 39 (.len (.t 38)),Qi 40 0] [2,4,6,8,9,10,38,39,40] [2,4,6,26,11405,13600])
 (.block 0 (.loop cj.l0)))
 (.seq (.seq (.ay [Qm 56 8,Q 57 (.qF 193 [.t 2]),Q 58 (.call 194 [.t 56,.t 57] [] [])] [4,6,8,9,58] [4,6,26,11405,13600])
 (.cond (.t 58) (.ay [Qm 59 9,Qm 60 8,Q 61 (.len (.t 60)),Q 62 (.call 128 [.t 61] [] []),
   Q 63 (.kQ 1 3 [.str ⟨#[]⟩] [(0,.k (.str ⟨#[42]⟩)),(1,.t 62),(2,.k (.str ⟨#[69,88,73,83,84,83]⟩))]),Q 64 (.call 191 [.t 63] [] []),Q 65 (.bin .add (.t 59) (.t 64)),
   Qm 9 65] [4,6,8,9] [4,6,26,11405,13600]) (.skip)))
 (.seq (.ay [Qm 66 8,Qf 67 5 6,Qs 1 67 66] [4,6,9] [4,6,26,11405,13600])
 (.seq (.ay [QL 68 6 6,Qm 69 9,Qs 6 4 68,Qm 5 69] [4,5] [4,26,11405,13600])
 (.ret))))))))))))
def cj.m:Fn:={np:=2,body:=cj.b,res:=[.cell 4 true 6,.tmp 5]}
def cj.k(M:Nat→Option Body):Prop:=M 93=some (.code cj.m)∧ec.k M∧bM.k M∧bd.k M∧cR.k M∧dI.k M∧dh.k M∧ee.k M∧bf.k M
def cQ.b:C:= .seq (.ay [Qv 2 0,Qv 3 1,Qb 4 false] [2,3] [2,3])
 (.seq (.ay [Qf 5 0 2,Ql 6 5,Qf 7 0 3,Ql 8 7,Q 9 (.bin .eql (.t 6) (.t 8)),Qm 10 9,Qg 11 (.cS 1 (.t 2)) 10 true,Qg 12 (.load false 1 (.t 11)) 10 true,Qg 13 (.cS 1 (.t 3)) 10 true,
   Qg 14 (.load false 1 (.t 13)) 10 true,Qg 15 (.bin .eql (.t 12) (.t 14)) 10 true,Q 16 (.pick (.t 10) (.t 15) (kB false)),Qm 17 16,Qg 18 (.cS 2 (.t 2)) 17 true,
   Qg 19 (.load false 1 (.t 18)) 17 true,Qg 20 (.cS 2 (.t 3)) 17 true,Qg 21 (.load false 1 (.t 20)) 17 true,Qg 22 (.beq false (.t 19) (.t 21)) 17 true,
   Q 23 (.pick (.t 17) (.t 22) (kB false)),Qm 24 23,Qg 25 (.cS 3 (.t 2)) 24 true,Qg 26 (.load false 1 (.t 25)) 24 true,Qg 27 (.cS 3 (.t 3)) 24 true,
   Qg 28 (.load false 1 (.t 27)) 24 true,Qg 29 (.beq false (.t 26) (.t 28)) 24 true,Q 30 (.pick (.t 24) (.t 29) (kB false)),Qm 31 30,Qg 32 (.cS 4 (.t 2)) 31 true,
   Qg 33 (.load false 1 (.t 32)) 31 true,Qg 34 (.cS 4 (.t 3)) 31 true,Qg 35 (.load false 1 (.t 34)) 31 true,Qg 36 (.bin .eql (.t 33) (.t 35)) 31 true,
   Q 37 (.pick (.t 31) (.t 36) (kB false)),Qm 38 37,Qg 39 (.cS 5 (.t 2)) 38 true,Qg 40 (.load false 1 (.t 39)) 38 true,Qg 41 (.cS 5 (.t 3)) 38 true,
   Qg 42 (.load false 1 (.t 41)) 38 true,Qg 43 (.call 158 [.t 40,.t 42] [] []) 38 true,Q 44 (.pick (.t 38) (.t 43) (kB false)),Qm 4 44] [4] [])
 (.ret))
def cQ.m:Fn:={np:=2,body:=cQ.b,res:=[.tmp 4]}
def cQ.k(M:Nat→Option Body):Prop:=M 96=some (.code cQ.m)∧cH.k M
def cI.b:C:= .seq (.ay [Qb 2 false] [0] [])
 (.seq (.seq (.ay [Qm 12 0,Q 13 (.call 36 [.t 12] [] [])] [0,13] [])
 (.cond (.t 13) (.seq (.ay [Qb 2 true] [2] [])
 (.ret)) (.skip)))
 (.seq (.ay [Qm 15 0,Q 16 (.call 92 [.t 15] [] []),Qm 14 16,Qx 17 0 14,Qx 18 1 14,Q 3 (.alloc [.str ⟨#[]⟩,.str ⟨#[]⟩,.bool false,.bool false,.int .i64 0,.bp 1]),
   Q 4 (.alloc [.int .i64 0,.int .i64 0,.bp 7,.bp 1]),Qs 6 3 17,Qs 4 4 18] [3,4] [3,4])
 (.seq (.ay [QL 20 6 3,QL 21 4 4,Q 22 (.call 93 [.t 20,.t 21] [] []),Qm 19 22,Qx 23 0 19,Qx 24 1 19,Q 5 (.alloc [.str ⟨#[]⟩,.str ⟨#[]⟩,.bool false,.bool false,.int .i64 0,.bp 1]),
   Qs 6 5 23,Qm 6 24] [3,4,5,6] [3,4,5])
 (.seq (.ay [QL 26 6 3,QL 27 4 4,Q 28 (.call 94 [.t 26,.t 27] [] []),Qm 25 28,Qx 29 0 25,Qx 30 1 25,Q 7 (.alloc [.str ⟨#[]⟩,.str ⟨#[]⟩,.bool false,.bool false,.int .i64 0,.bp 1]),
   Qs 6 7 29,Qm 8 30] [4,5,6,7,8] [4,5,7])
 (.seq (.ay [QL 32 6 5,QL 33 4 4,Q 34 (.call 93 [.t 32,.t 33] [] []),Qm 31 34,Qx 35 0 31,Qx 36 1 31,Q 9 (.alloc [.str ⟨#[]⟩,.str ⟨#[]⟩,.bool false,.bool false,.int .i64 0,.bp 1]),
   Qs 6 9 35,Qm 10 36] [4,5,6,7,8,9,10] [4,5,7,9])
 (.seq (.ay [QL 37 4 4,Qf 38 4 5,Ql 39 38,Q 40 (.call 95 [.t 37,.t 39] [] []),Qm 11 40] [4,5,6,7,8,9,10,11] [4,5,7,9])
 (.seq (.seq (.eD [Qf 41 4 5,Ql 42 41,Q 43 (.bin .neq (.t 42) (kI 0)),Qm 44 43,Qg 45 (.mv (.t 11)) 44 true,Qg 46 (.bin .lss (.t 45) (kI 0)) 44 true,Qg 47 (.mv (.t 46)) 44 true,
   Qg 48 (.cS 5 (.t 5)) 47 false,Qg 49 (.load false 1 (.t 48)) 47 false,Qg 50 (.len (.t 49)) 47 false,Qg 51 (.cS 2 (.t 4)) 47 false,Qg 52 (.load false 1 (.t 51)) 47 false,
   Qg 53 (.mv (.t 11)) 47 false,Qg 54 (.eM 7 (.t 52) (.t 53)) 47 false,Qg 55 (.cS 5 (.t 54)) 47 false,Qg 56 (.load false 1 (.t 55)) 47 false,Qg 57 (.len (.t 56)) 47 false,
   Qg 58 (.bin .neq (.t 50) (.t 57)) 47 false,Qg 59 (.pick (.t 47) (kB true) (.t 58)) 44 true,Q 60 (.pick (.t 44) (.t 59) (kB false))] [[],[0],[0,1],[0,1,2],lr 4,lr 5,lr 6,lr 7,lr 8,lr 9,lr 7,lr 7++[10],lr 7,lr 7++[10,11,12],lr 7++[10,11,12,13],lr 7++[10,11,12,13,14],lr 7++[10,11,12,13,14,15],lr 17,lr 18,lr 19] [5,6,7,8,9,10,60] [5,7,9])
 (.cond (.t 60) (.seq (.ay [Qb 2 false] [2] [])
 (.ret)) (.skip)))
 (.seq (.ay [Qm 61 6,Qm 62 8,Q 63 (.bin .eql (.t 61) (.t 62)),Qm 64 63,Qg 65 (.load true 6 (.t 5)) 64 true,Qg 66 (.load true 6 (.t 7)) 64 true,
   Qg 67 (.call 96 [.t 65,.t 66] [] []) 64 true,Q 68 (.pick (.t 64) (.t 67) (kB false)),Qm 69 68,Qg 70 (.mv (.t 10)) 69 true,Qg 71 (.bin .eql (.t 70) (.k (.str ⟨#[]⟩))) 69 true,
   Q 72 (.pick (.t 69) (.t 71) (kB false)),Qm 73 72,Qg 74 (.load true 6 (.t 9)) 73 true,Qg 75 (.load true 6 (.t 5)) 73 true,Qg 76 (.call 96 [.t 74,.t 75] [] []) 73 true,
   Q 77 (.pick (.t 73) (.t 76) (kB false)),Qm 78 77,Qg 79 (.call 97 [] [] []) 78 true,Qg 80 (.yz false 1 1 (.t 79)) 78 true,
   Qg 81 (.bin .eql (.t 80) (.k (.str ⟨#[42,32,79,75,13,10]⟩))) 78 true,Q 82 (.pick (.t 78) (.t 81) (kB false)),Qm 2 82] [2] [])
 (.ret)))))))))
def cI.m:Fn:={np:=1,body:=cI.b,res:=[.tmp 2]}
def cI.k(M:Nat→Option Body):Prop:=M 525=some (.code cI.m)∧eW.k M∧du.k M∧cj.k M∧bO.k M∧ec.k M∧cQ.k M∧c_.k M
def jY(l:List Int)(x:Int):List Int:=l.filter (fun y=>decide (y<x))++[x]++l.filter (fun y=>decide (x<y))
def CE(l:List Int)(x:Int):List Int:=if x∈l then l else jY l x
def mh(a b:List Int):List Int:=(a++b).foldl CE []
abbrev yu(l:List Int):Prop:=l.Pairwise (·<·)
theorem jr{l:List Int}{x z:Int}:z∈jY l x↔z=x∨z∈l:=by
 simp only[jY,eY,fB,decide_eq_true_eq,eA];constructor
 ·rintro ((⟨h,_⟩|h)|⟨h,_⟩)
  ·exact .inr h
  ·exact .inl h
  ·exact .inr h
 ·rintro (h|h)
  ·exact .inl (.inr h)
  ·by_cases c:z<x
   ·exact .inl (.inl ⟨h,c⟩)
   ·by_cases c2:z=x
    ·exact .inl (.inr c2)
    ·exact .inr ⟨h,by omega⟩
theorem r5{l:List Int}{x:Int}(h:yu l):yu (jY l x):=by
 simp only[jY,yu,List.pairwise_append,List.pairwise_singleton,fB,decide_eq_true_eq,eA,eY];refine⟨⟨h.filter _,trivial, ?_⟩,h.filter _, ?_⟩
 ·rintro a ⟨_,ha⟩ b rfl;exact ha
 ·rintro a (⟨_,ha⟩|rfl) b ⟨_,hb⟩<;>omega
end Mx
namespace Mx
open Go
variable {M:Nat→Option Body}
theorem dv.aE(h:dv.k M)(l:List Int)(hx:l.length≤1048576):run M 134 [.c (ints l)] []=some (.c (.sl true 1 (au l)),[]):=by
 have h1:l.length≤4294967296:=by omega
 refine aq (b:=dv.m) h ⟨0, ?_⟩;simp[bB,dv.m,dv.b,ab,aa,h1]
end Mx
namespace Mx
open Go
theorem zH(k:IntKind)(x y:Int):xO k x y=k.wrap (((x%((2^k.bits:Nat):Int)).toNat&&&(y%((2^k.bits:Nat):Int)).toNat:Nat):Int):=by
 unfold xO;rw[BitVec.toNat_and,BitVec.toNat_ofInt,BitVec.toNat_ofInt]
theorem xI:m8 []=[]:=rfl
attribute [simp] xI
end Mx
namespace Mx
open Go
variable {M:Nat→Option Body}
theorem bh.aE(h:bh.k M)(n a b:Int):run M 98 [.c (I n),.c (I a),.c (I b)] []=some (.c (.bool (decide (a≤n)&&decide (n≤b))),[]):=by
 refine aq (b:=bh.m) h ⟨0, ?_⟩;by_cases h:a≤n
 ·have h':n≥a:=h;simp[bB,bh.m,bh.b,ab,h]
 ·have h':¬n≥a:=h;simp[bB,bh.m,bh.b,ab,h]
structure jB where
 val:Int
 time:Int
 eP:Int
structure fi where
 gid:Int
 uid:Int
 flags:List jB
 text:List UInt8
structure cX where
 gid:Int
 name:List UInt8
 time:Int
 eP:Int
 next:Int
 af:List fi
 gone:List Int
abbrev cA(r:jB):List T:=[I r.val,I r.time,I r.eP]
abbrev iS(l:List jB):T:= .sl false 3 (l.map cA)
abbrev aD(m:fi):List T:=[I m.gid,I m.uid,iS m.flags,S m.text]
abbrev af(l:List fi):T:= .sl false 4 (l.map aD)
abbrev ah(b:cX):List T:=[I b.gid,S b.name,I b.time,I b.eP,I b.next,af b.af,ints b.gone]
abbrev oT(m:fi):List T:=[I m.gid,I m.uid,.sl true 3 (m.flags.map cA),S m.text]
abbrev dR(b:cX):List T:=[I b.gid,S b.name,I b.time,I b.eP,I b.next,.sl true 4 (b.af.map aD),.sl true 1 (au b.gone)]
theorem zo{k:IntKind}{u:T}(h:Has (.int k) u):∃n,u= .int k n:=by cases h;exact⟨_,rfl⟩
def tC(l:List fi)(g:Int):Nat→Nat→Option Nat
 |0,_=>none
 |d+1,i=>if h:i<l.length then(if l[i].gid=g then some i else tC l g d (i+1)) else none
def dY(l:List fi)(g:Int):Option Nat:=tC l g l.length 0
def di:Option Nat→Int
 |some i=>i
 |none=> -1
theorem xM(l:List fi)(g:Int):∀d i k,tC l g d i=some k→k<l.length
 |0,i,k,h=>by simp[tC] at h
 |d+1,i,k,h=>by
  rw[tC] at h;by_cases hl:i<l.length
  ·rw[dif_pos hl] at h;split at h
   ·cases h;exact hl
   ·exact xM l g d (i+1) k h
  ·rw[dif_neg hl] at h;cases h
def eS(q:Option Nat)(m:St):Out×St:=match q with
 |some i=>(.ret,{t:=[(4,.c (I i))],o:=[],n:=m.n})
 |none=>(.exit 0,m)
theorem jy(q:Option Nat)(m:St):(eS q m).1≠.normal:=by cases q<;>simp[eS]
theorem zG{f:St→Option (Out×St)}{β:Type}(l:List fi)(g:Int)(S:Nat→β→St)
  (h1:∀i (h:i<l.length) x,l[i].gid=g→∃m,f (S i x)=some (eS (some i) m)) (h2:∀i (h:i<l.length) x,¬l[i].gid=g→∃y,f (S i x)=some (.normal,S (i+1) y))
  (h3:∀x,∃m,f (S l.length x)=some (eS none m)):∃g':β→St,∀x,dP f (l.length+1) (S 0 x)=some (eS (dY l g) (g' x)):=by
 refine hO (f:=f) S (fun i=>i≤l.length) (fun i=>l.length-i) (fun i=>tC l g (l.length-i) i) eS ?_ (l.length+1) 0 (Nat.zero_le _) (by omega);intro i x hi;by_cases hlt:i<l.length
 ·have hd:l.length-i=(l.length-(i+1))+1:=by omega
  have hg:tC l g (l.length-i) i=if l[i].gid=g then some i else tC l g (l.length-(i+1)) (i+1):=by rw[hd,tC,dif_pos hlt]
  simp only[hg];by_cases c:l[i].gid=g
  ·right;obtain⟨m,hm⟩:=h1 i hlt x c;rw[if_pos c];exact⟨m,hm,jy _ _⟩
  ·left;obtain⟨y,hy⟩:=h2 i hlt x c;rw[if_neg c];exact⟨i+1,y,hy,hlt,by omega,rfl⟩
 ·have:i=l.length:=by omega
  subst this;right;obtain⟨m,hm⟩:=h3 x;simp only[Nat.sub_self,tC];exact⟨m,hm,jy _ _⟩
def pK(b:cX)(g:Int)(i:Nat)(x:Nat×Nat):St:={t:=[(1,.c (I g)),(2,.c (.ptr 2 x.1 0 0)),(5,.c (I i))],o:=[(2,⟨x.1,7,true,true,[ah b]⟩)],n:=x.2}
theorem aX.aE(h:aX.k M)(b:cX)(g:Int)(hb:b.af.length≤1048576):run M 91 [.a (ah b),.c (I g)] []=some (.c (I (di (dY b.af g))),[]):=by
 refine aq (b:=aX.m) h ⟨b.af.length+1, ?_⟩;obtain⟨g',hr⟩:=zG (f:=b9 (run M) (b.af.length+1) aX.l0) b.af g (pK b g)
  (fun i hi x c=>by
   obtain⟨v,x⟩:=x;simp[pK,aX.l0,hi,c,aD,eS];exact⟨⟨[],[],_⟩,rfl⟩)
  (fun i hi x c=>by
   obtain⟨v,x⟩:=x;have e5:=dS (i:=i) (by omega);simp only[bP];simp[pK,aX.l0,hi,c,aD,e5])
  (fun x=>by
   obtain⟨v,x⟩:=x;simp[pK,aX.l0,eS])
 cases hm:dY b.af g with
 |none=>
  simp[pK,hm,eS] at hr;simp[bB,aX.m,aX.b,ab,hr,di]
 |some k=>
  simp[pK,hm,eS] at hr;simp[bB,aX.m,aX.b,ab,hr,di]
def holds(b:cX)(g:Int):Bool:=decide (0≤di (dY b.af g))
end Mx
namespace Mx
open Go
def gF(p:Nat→Bool):Nat→Nat→Option Nat
 |0,_=>none
 |d+1,i=>if p i=true then some i else gF p d (i+1)
def dn(p:Nat→Bool)(n:Nat):Option Nat:=gF p n 0
theorem nA(p:Nat→Bool):∀d i,gF p d i=none→∀j,i≤j→j<i+d→p j=false
 |0,i,_,j,h1,h2=>by omega
 |d+1,i,h,j,h1,h2=>by
  rw[gF] at h;split at h
  ·cases h
  ·by_cases e:j=i
   ·subst e;simpa using ‹¬p j=true›
   ·exact nA p d (i+1) h j (by omega) (by omega)
theorem nz(p:Nat→Bool):∀d i k,gF p d i=some k→i≤k∧k<i+d∧p k=true∧∀j,i≤j→j<k→p j=false
 |d+1,i,k,h=>by
  rw[gF] at h;split at h
  ·cases h;exact⟨by omega,by omega,‹_›,fun j h1 h2=>by omega⟩
  ·obtain⟨h1,h2,h3,h4⟩:=nz p d (i+1) k h;refine⟨by omega,by omega,h3,fun j h5 h6=> ?_⟩;by_cases e:j=i
   ·subst e;simpa using ‹¬p j=true›
   ·exact h4 j (by omega) h6
theorem i_{p:Nat→Bool}{n:Nat}(h:dn p n=none):∀j,j<n→p j=false:=fun j hj=>nA p n 0 h j (by omega) (by omega)
theorem hZ{p:Nat→Bool}{n k:Nat}(h:dn p n=some k):k<n∧p k=true∧∀j,j<k→p j=false:=by
 obtain⟨_,h2,h3,h4⟩:=nz p n 0 k h;exact⟨by omega,h3,fun j hj=>h4 j (by omega) hj⟩
theorem en{p:Nat→Bool}{n:Nat}:dn p n=none↔∀j,j<n→p j=false:=by
 refine⟨i_,fun h=> ?_⟩;cases q:dn p n with
 |none=>rfl
 |some k=>
  obtain⟨h1,h2,_⟩:=hZ q;rw[h k h1] at h2;cases h2
theorem gV{γ β:Type}(n:Nat)(p:Nat→Bool){f:St→Option (Out×St)}(S:Nat→β→St)(fin:Option Nat→γ→Out×St)(hfin:∀q m,(fin q m).1≠.normal)
  (h1:∀i,i<n→∀x,p i=false→∃y,f (S i x)=some (.normal,S (i+1) y)) (h2:∀i,i<n→∀x,p i=true→∃m,f (S i x)=some (fin (some i) m))
  (h3:∀x,∃m,f (S n x)=some (fin none m)):∃g:β→γ,∀x,dP f (n+1) (S 0 x)=some (fin (dn p n) (g x)):=by
 refine hO (f:=f) S (fun i=>i≤n) (fun i=>n-i) (fun i=>gF p (n-i) i) fin ?_ (n+1) 0 (Nat.zero_le _) (by omega);intro i x hi;by_cases hlt:i<n
 ·have hd:n-i=(n-(i+1))+1:=by omega
  have hg:gF p (n-i) i=if p i=true then some i else gF p (n-(i+1)) (i+1):=by rw[hd,gF]
  simp only[hg];by_cases c:p i=true
  ·right;obtain⟨m,hm⟩:=h2 i hlt x c;rw[if_pos c];exact⟨m,hm,hfin _ _⟩
  ·left;obtain⟨y,hy⟩:=h1 i hlt x (by simpa using c);rw[if_neg c];exact⟨i+1,y,hy,hlt,by omega,rfl⟩
 ·have:i=n:=by omega
  subst this;right;obtain⟨m,hm⟩:=h3 x;simp only[Nat.sub_self,gF];exact⟨m,hm,hfin _ _⟩
theorem gE{f:St→Option (Out×St)}{n m:Nat}{s:St}{r:Out×St}(h:dP f n s=some r)(hm:n≤m):dP f m s=some r:=jW (fun _ _ h=>h) hm h
def ib{β:Type}(r:Nat)(w:T)(e:Nat)(E:β→St)(q:Option Nat)(m:β×Nat):Out×St:=match q with
 |none=>(.exit e,E m.1)
 |some _=>(.ret,{t:=[(r,.c w)],o:=[],n:=m.2})
theorem eZ{β:Type}(n:Nat)(p:Nat→Bool){f:St→Option (Out×St)}(S:Nat→β→St)(r:Nat)(w:T)(e:Nat)(E:β→St)
  (h1:∀i,i<n→∀x,p i=false→∃y,f (S i x)=some (.normal,S (i+1) y)) (h2:∀i,i<n→∀x,p i=true→∃k,f (S i x)=some (.ret,{t:=[(r,.c w)],o:=[],n:=k}))
  (h3:∀x,∃y,f (S n x)=some (.exit e,E y)):∃g:β→β×Nat,∀x,dP f (n+1) (S 0 x)=some (ib r w e E (dn p n) (g x)):=
 gV n p S (ib r w e E) (fun q m=>by cases q<;>simp[ib]) h1 (fun i hi x c=>by
  obtain⟨k,hk⟩:=h2 i hi x c;exact⟨(x,k),hk⟩) (fun x=>by
  obtain⟨y,hy⟩:=h3 x;exact⟨(y,0),hy⟩)
theorem lf{α σ β γ:Type}(l:List α)(step:σ→α→σ)(Inv:Nat→σ→Prop){f:St→Option (Out×St)}(S:Nat→σ→β→St)(e:Nat)(E:σ→γ→St)
  (hI:∀i (h:i<l.length) s,Inv i s→Inv (i+1) (step s l[i]))
  (h1:∀i (h:i<l.length) s x,Inv i s→∃y,f (S i s x)=some (.normal,S (i+1) (step s l[i]) y))
  (h3:∀s x,Inv l.length s→∃y,f (S l.length s x)=some (.exit e,E s y)) (s:σ) (h0:Inv 0 s):
  ∃g:β→γ,∀x,dP f (l.length+1) (S 0 s x)=some (.exit e,E (l.foldl step s) (g x)):=by
 refine hO (f:=f) (fun p:Nat×σ=>S p.1 p.2) (fun p=>p.1≤l.length∧Inv p.1 p.2) (fun p=>l.length-p.1) (fun p=>(l.drop p.1).foldl step p.2) (fun q m=>(.exit e,E q m)) ?_ (l.length+1) (0,s) ⟨Nat.zero_le _,h0⟩ (by simp);rintro ⟨i,s⟩ x ⟨hi,hs⟩;simp only at hi hs;by_cases hlt:i<l.length
 ·left;obtain⟨y,hy⟩:=h1 i hlt s x hs;refine⟨(i+1,step s l[i]),y,hy,⟨hlt,hI i hlt s hs⟩,by simp only;omega, ?_⟩;simp only;rw[cB hlt,dW]
 ·have:i=l.length:=by omega
  subst this;right;obtain⟨y,hy⟩:=h3 s x hs;exact⟨y,by simp[hy],by simp⟩
def texts{α:Type}(t:α→List UInt8)(l:List α):List UInt8:=l.flatMap t
end Mx
namespace Mx
open Go
variable {M:Nat→Option Body}
def iT(a n b:Int):Bool:=decide (a≤n)&&decide (n≤b)
theorem bh.iT(h:bh.k M)(n a b:Int):run M 98 [.c (I n),.c (I a),.c (I b)] []=some (.c (.bool (iT a n b)),[]):=bh.aE h n a b
def gB(t w:Int):Bool:=iT 0 t 100000&&iT 0 w 2
theorem de.aE(h:de.k M)(t w:Int):run M 183 [.a [I t,I w]] []=some (.c (.bool (gB t w)),[]):=by
 have h1:=bh.iT h.2 t 0 100000;have h2:=bh.iT h.2 w 0 2;refine aq (b:=de.m) h.1 ⟨0, ?_⟩;cases c:iT 0 t 100000<;>simp (maxSteps:=9^9) (disch:=(first|omega|(simp;done)|(simp;omega))) [bB,de.m,de.b,ab,h1,h2,c,gB]
def lZ(r:jB):Bool:=gB r.time r.eP&&iT 0 r.val 1000000000
theorem dT.aE(h:dT.k M)(r:jB):run M 276 [.a (cA r)] []=some (.c (.bool (lZ r)),[]):=by
 have h1:=de.aE h.2.2 r.time r.eP;have h2:=bh.iT h.2.1 r.val 0 1000000000;refine aq (b:=dT.m) h.1 ⟨0, ?_⟩;cases c:gB r.time r.eP<;>simp (maxSteps:=9^9) (disch:=(first|omega|(simp;done)|(simp;omega))) [bB,dT.m,dT.b,ab,aa,h1,h2,c,lZ]
def mB(l:List jB)(i:Nat):Bool:=match l[i]? with
 |some r=> !lZ r||decide (1<r.val)
 |none=>false
def iA(l:List jB):Bool:=(dn (mB l) l.length).isNone&&decide (l.length=3)
theorem lM{l:List jB}{i:Nat}(h:i<l.length):mB l i=(!lZ l[i]||decide (1<l[i].val)):=by simp[mB,h]
def AO(l:List jB)(i:Nat)(x:Nat):St:={t:=[(0,.c (iS l)),(3,.c (I i))],o:=[],n:=x}
def Cs(l:List jB)(x:Nat):St:={t:=[(0,.c (iS l)),(3,.c (I l.length)),(7,.c (.bool false))],o:=[],n:=x}
theorem bZ.aE(h:bZ.k M)(l:List jB)(hl:l.length≤1048576):run M 242 [.c (iS l)] []=some (.c (.bool (iA l)),[]):=by
 refine aq (b:=bZ.m) h.1 ⟨l.length+1, ?_⟩;obtain⟨g,hr⟩:=eZ (f:=b9 (run M) (l.length+1) bZ.l0) l.length (mB l) (AO l) 2 (.bool false) 0 (Cs l)
  (fun i hi x c=>by
   have e5:=dS (i:=i) (by omega);have hm:=dT.aE h.2 l[i];rw[lM hi] at c;simp at c;simp only[cA,c.1] at hm;have c2:¬(1:Int)<l[i].val:=by omega
   simp (maxSteps:=9^9) (disch:=(first|omega|(simp;done)|(simp;omega))) [bZ.l0,aa,AO,hi,hm,cA,c2,e5])
  (fun i hi x c=>by
   have hm:=dT.aE h.2 l[i];rw[lM hi] at c;cases c1:lZ l[i]
   ·simp only[cA,c1] at hm;simp (maxSteps:=9^9) (disch:=(first|omega|(simp;done)|(simp;omega))) [bZ.l0,aa,AO,hi,hm,cA]
   ·simp[c1] at c;simp only[cA,c1] at hm;simp (maxSteps:=9^9) (disch:=(first|omega|(simp;done)|(simp;omega))) [bZ.l0,aa,AO,hi,hm,cA,c])
  (fun x=>by simp (maxSteps:=9^9) (disch:=(first|omega|(simp;done)|(simp;omega))) [bZ.l0,AO,Cs])
 cases q:dn (mB l) l.length with
 |none=>
  simp[AO,Cs,q,ib] at hr;simp (maxSteps:=9^9) (disch:=(first|omega|(simp;done)|(simp;omega))) [bB,bZ.m,bZ.b,ab,hr,iA,q];omega
 |some k=>
  simp[AO,q,ib] at hr;simp (maxSteps:=9^9) (disch:=(first|omega|(simp;done)|(simp;omega))) [bB,bZ.m,bZ.b,ab,hr,iA,q]
def gp(m:fi):Bool:=iT 1 m.gid 9999&&iT 1 m.uid 9999&&iA m.flags&&decide (m.text.length≤60)
theorem cM.aE(h:cM.k M)(m:fi)(hl:m.flags.length≤1048576):run M 187 [.a (aD m)] []=some (.c (.bool (gp m)),[]):=by
 have h1:=bh.iT h.2.1 m.gid 1 9999;have h2:=bh.iT h.2.1 m.uid 1 9999;have h3:=bZ.aE h.2.2 m.flags hl;refine aq (b:=cM.m) h.1 ⟨0, ?_⟩;cases c1:iT 1 m.gid 9999
 ·simp (maxSteps:=9^9) (disch:=(first|omega|(simp;done)|(simp;omega))) [bB,cM.m,cM.b,ab,h1,c1,gp]
 cases c2:iT 1 m.uid 9999
 ·simp (maxSteps:=9^9) (disch:=(first|omega|(simp;done)|(simp;omega))) [bB,cM.m,cM.b,ab,h1,h2,c1,c2,gp]
 cases c3:iA m.flags
 ·simp (maxSteps:=9^9) (disch:=(first|omega|(simp;done)|(simp;omega))) [bB,cM.m,cM.b,ab,h1,h2,h3,c1,c2,c3,gp]
 simp (maxSteps:=9^9) (disch:=(first|omega|(simp;done)|(simp;omega))) [bB,cM.m,cM.b,ab,h1,h2,h3,c1,c2,c3,gp];omega
def mA(l:List UInt8)(i:Nat):Bool:=match l[i]? with
 |some b=>(decide ((b.toNat:Int)<97)||decide (122<(b.toNat:Int)))&&(decide ((b.toNat:Int)<48)||decide (57<(b.toNat:Int)))
 |none=>false
theorem o6{l:List UInt8}{i:Nat}(h:i<l.length):
  mA l i=((decide ((l[i].toNat:Int)<97)||decide (122<(l[i].toNat:Int)))&&(decide ((l[i].toNat:Int)<48)||decide (57<(l[i].toNat:Int)))):=by simp[mA,h]
def kH(l:List UInt8):Bool:=(dn (mA l) l.length).isNone&&iT 1 l.length 12
def qu(l:List UInt8)(i:Nat)(x:Nat):St:={t:=[(0,.c (S l)),(3,.c (I i))],o:=[],n:=x}
def AN(l:List UInt8)(x:Nat):St:={t:=[(0,.c (S l)),(3,.c (I l.length)),(7,.c (.bool false))],o:=[],n:=x}
theorem cC.aE(h:cC.k M)(l:List UInt8)(hl:l.length≤4611686018427387904):run M 90 [.c (S l)] []=some (.c (.bool (kH l)),[]):=by
 have h1:=bh.iT h.2 l.length 1 12;refine aq (b:=cC.m) h.1 ⟨l.length+1, ?_⟩;obtain⟨g,hr⟩:=eZ (f:=b9 (run M) (l.length+1) cC.l0) l.length (mA l) (qu l) 2 (.bool false) 0 (AN l)
  (fun i hi x c=>by
   have e5:=dS (i:=i) (by omega);rw[o6 hi] at c;generalize hb:((l[i].toNat:Nat):Int)=b at c;by_cases c1:b<97
   ·by_cases c2:b<48
    ·simp[c1,c2] at c
    ·by_cases c3:57<b
     ·simp[c1,c2,c3] at c
     ·simp (maxSteps:=9^9) (disch:=(first|omega|(simp;done)|(simp;omega))) [cC.l0,ar,qu,hi,e5,hb,c1,c2,c3]
   ·by_cases c4:122<b
    ·have c3:57<b:=by omega
     simp[c1,c4,c3] at c
    ·simp (maxSteps:=9^9) (disch:=(first|omega|(simp;done)|(simp;omega))) [cC.l0,ar,qu,hi,e5,hb,c1,c4])
  (fun i hi x c=>by
   rw[o6 hi] at c;generalize hb:((l[i].toNat:Nat):Int)=b at c;by_cases c1:b<97
   ·by_cases c2:b<48
    ·simp (maxSteps:=9^9) (disch:=(first|omega|(simp;done)|(simp;omega))) [cC.l0,ar,qu,hi,hb,c1,c2]
    ·by_cases c3:57<b
     ·simp (maxSteps:=9^9) (disch:=(first|omega|(simp;done)|(simp;omega))) [cC.l0,ar,qu,hi,hb,c1,c2,c3]
     ·simp[c1,c2,c3] at c
   ·by_cases c4:122<b
    ·have c2:¬b<48:=by omega
     have c3:57<b:=by omega
     simp (maxSteps:=9^9) (disch:=(first|omega|(simp;done)|(simp;omega))) [cC.l0,ar,qu,hi,hb,c1,c2,c3,c4]
    ·simp[c1,c4] at c)
  (fun x=>by simp (maxSteps:=9^9) (disch:=(first|omega|(simp;done)|(simp;omega))) [cC.l0,qu,AN])
 cases q:dn (mA l) l.length with
 |none=>
  simp[qu,AN,q,ib] at hr;simp (maxSteps:=9^9) (disch:=(first|omega|(simp;done)|(simp;omega))) [bB,cC.m,cC.b,ab,hr,kH,q,h1]
 |some k=>
  simp[qu,q,ib] at hr;simp (maxSteps:=9^9) (disch:=(first|omega|(simp;done)|(simp;omega))) [bB,cC.m,cC.b,ab,hr,kH,q]
def o7(l:List Int)(i:Nat):Bool:=match l[i]? with
 |some g=> !iT 1 g 9999||(decide (0<i)&&match l[i-1]? with|some f=>decide (g≤f)|none=>false)
 |none=>false
theorem jv{l:List Int}{i:Nat}(h:i<l.length):o7 l i=(!iT 1 l[i] 9999||(decide (0<i)&&decide (l[i]≤l[i-1]))):=by
 simp[o7,h,(show i-1<l.length by omega)]
def gq(l:List Int)(most:Int):Bool:=(dn (o7 l) l.length).isNone&&decide ((l.length:Int)≤most)
def An(l:List Int)(most:Int)(i:Nat)(x:Nat):St:={t:=[(0,.c (ints l)),(1,.c (I most)),(5,.c (I i))],o:=[],n:=x}
def Cp(l:List Int)(most:Int)(x:Nat):St:={t:=[(0,.c (ints l)),(1,.c (I most)),(5,.c (I l.length)),(9,.c (.bool false))],o:=[],n:=x}
theorem bu.aE(h:bu.k M)(l:List Int)(most:Int)(hl:l.length≤4611686018427387904):run M 186 [.c (ints l),.c (I most)] []=some (.c (.bool (gq l most)),[]):=by
 refine aq (b:=bu.m) h.1 ⟨l.length+1, ?_⟩;obtain⟨g,hr⟩:=eZ (f:=b9 (run M) (l.length+1) bu.l0) l.length (o7 l) (An l most) 4 (.bool false) 0 (Cp l most)
  (fun i hi x c=>by
   have e5:=dS (i:=i) (by omega);have hm:=bh.iT h.2 l[i] 1 9999;rw[jv hi] at c;simp at c;simp only[c.1] at hm;by_cases c1:0<i
   ·have c2:¬l[i]≤l[i-1]:=by have:=c.2 c1;omega
    have e6:IntKind.i64.wrap ((i:Int)-1)=((i-1:Nat):Int):=by rw[wrap_i64 (by omega) (by omega)];omega
    simp (maxSteps:=9^9) (disch:=(first|omega|(simp;done)|(simp;omega))) [bu.l0,An,hi,hm,c1,c2,e5,e6]
   ·simp (maxSteps:=9^9) (disch:=(first|omega|(simp;done)|(simp;omega))) [bu.l0,An,hi,hm,c1,e5])
  (fun i hi x c=>by
   have hm:=bh.iT h.2 l[i] 1 9999;rw[jv hi] at c;cases c1:iT 1 l[i] 9999
   ·simp only[c1] at hm;simp (maxSteps:=9^9) (disch:=(first|omega|(simp;done)|(simp;omega))) [bu.l0,An,hi,hm]
   ·simp[c1] at c;obtain⟨c2,c3⟩:=c;simp only[c1] at hm;have e6:IntKind.i64.wrap ((i:Int)-1)=((i-1:Nat):Int):=by rw[wrap_i64 (by omega) (by omega)];omega
    simp (maxSteps:=9^9) (disch:=(first|omega|(simp;done)|(simp;omega))) [bu.l0,An,hi,hm,c2,c3,e6])
  (fun x=>by simp (maxSteps:=9^9) (disch:=(first|omega|(simp;done)|(simp;omega))) [bu.l0,An,Cp])
 cases q:dn (o7 l) l.length with
 |none=>
  simp[An,Cp,q,ib] at hr;simp (maxSteps:=9^9) (disch:=(first|omega|(simp;done)|(simp;omega))) [bB,bu.m,bu.b,ab,hr,gq,q]
 |some k=>
  simp[An,q,ib] at hr;simp (maxSteps:=9^9) (disch:=(first|omega|(simp;done)|(simp;omega))) [bB,bu.m,bu.b,ab,hr,gq,q]
def qH(l:List Int)(g:Int)(i:Nat):Bool:=match l[i]? with
 |some x=>decide (x=g)
 |none=>false
theorem la{l:List Int}{g:Int}{i:Nat}(h:i<l.length):qH l g i=decide (l[i]=g):=by simp[qH,h]
theorem rU(l:List Int)(g:Int):(dn (qH l g) l.length).isSome=decide (g∈l):=by
 rw[Bool.eq_iff_iff];simp only[decide_eq_true_eq];cases q:dn (qH l g) l.length with
 |none=>
  have:=i_ q;refine⟨fun h=>by simp at h,fun h=> ?_⟩;obtain⟨i,hi,e⟩:=cr h;have h1:=this i hi;rw[la hi] at h1;simp[e] at h1
 |some k=>
  obtain⟨h1,h2,_⟩:=hZ q;rw[la h1] at h2;simp at h2;refine⟨fun _=> ?_,fun _=>rfl⟩;rw[←h2];exact ax h1
def A_(l:List Int)(g:Int)(i:Nat)(x:Nat):St:={t:=[(0,.c (ints l)),(1,.c (I g)),(5,.c (I i))],o:=[],n:=x}
def Cq(l:List Int)(g:Int)(x:Nat):St:={t:=[(0,.c (ints l)),(1,.c (I g)),(5,.c (I l.length)),(9,.c (.bool false))],o:=[],n:=x}
theorem bC.aE(h:bC.k M)(l:List Int)(g:Int)(hl:l.length≤4611686018427387904):run M 132 [.c (ints l),.c (I g)] []=some (.c (.bool (decide (g∈l))),[]):=by
 refine aq (b:=bC.m) h ⟨l.length+1, ?_⟩;obtain⟨g',hr⟩:=eZ (f:=b9 (run M) (l.length+1) bC.l0) l.length (qH l g) (A_ l g) 4 (.bool true) 0 (Cq l g)
  (fun i hi x c=>by
   have e5:=dS (i:=i) (by omega);rw[la hi] at c;simp at c;simp (maxSteps:=9^9) (disch:=(first|omega|(simp;done)|(simp;omega))) [bC.l0,A_,hi,e5,c])
  (fun i hi x c=>by
   rw[la hi] at c;simp at c;simp (maxSteps:=9^9) (disch:=(first|omega|(simp;done)|(simp;omega))) [bC.l0,A_,hi,c])
  (fun x=>by simp (maxSteps:=9^9) (disch:=(first|omega|(simp;done)|(simp;omega))) [bC.l0,A_,Cq])
 have hm:=rU l g;rw[←hm];cases q:dn (qH l g) l.length with
 |none=>
  simp[A_,Cq,q,ib] at hr;simp (maxSteps:=9^9) (disch:=(first|omega|(simp;done)|(simp;omega))) [bB,bC.m,bC.b,ab,hr]
 |some k=>
  simp[A_,q,ib] at hr;simp (maxSteps:=9^9) (disch:=(first|omega|(simp;done)|(simp;omega))) [bB,bC.m,bC.b,ab,hr]
def A7(l:List Int)(g:Int)(i:Nat)(x:Nat):St:={t:=[(0,.c (ints l)),(1,.c (I g)),(7,.c (I l.length)),(8,.c (I i))],o:=[],n:=x}
theorem a6.aE(h:a6.k M)(l:List Int)(g:Int)(hl:l.length≤4611686018427387904):run M 234 [.c (ints l),.c (I g)] []=some (.c (I (di (dn (qH l g) l.length))),[]):=by
 refine aq (b:=a6.m) h ⟨l.length+1, ?_⟩;obtain⟨g',hr⟩:=gV (f:=b9 (run M) (l.length+1) a6.l0) l.length (qH l g) (A7 l g) eS jy
  (fun i hi x c=>by
   have e5:=dS (i:=i) (by omega);rw[la hi] at c;simp at c;have c':¬g=l[i]:=fun q=>c q.symm
   simp (maxSteps:=9^9) (disch:=(first|omega|(simp;done)|(simp;omega))) [a6.l0,A7,hi,e5,c'])
  (fun i hi x c=>by
   rw[la hi] at c;simp at c;simp (maxSteps:=9^9) (disch:=(first|omega|(simp;done)|(simp;omega))) [a6.l0,A7,hi,c,eS];exact⟨⟨[],[],_⟩,rfl⟩)
  (fun x=>by simp (maxSteps:=9^9) (disch:=(first|omega|(simp;done)|(simp;omega))) [a6.l0,A7,eS])
 cases q:dn (qH l g) l.length with
 |none=>
  simp[A7,q,eS] at hr;simp (maxSteps:=9^9) (disch:=(first|omega|(simp;done)|(simp;omega))) [bB,a6.m,a6.b,ab,hr,di]
 |some k=>
  simp[A7,q,eS] at hr;simp (maxSteps:=9^9) (disch:=(first|omega|(simp;done)|(simp;omega))) [bB,a6.m,a6.b,ab,hr,di]
theorem xe(q:Option Nat):decide (0≤di q)=q.isSome:=by cases q<;>simp[di]
theorem bd.aE(h:bd.k M)(l:List Int)(g:Int)(hl:l.length≤4611686018427387904):run M 156 [.c (ints l),.c (I g)] []=some (.c (.bool (decide (g∈l))),[]):=by
 have h1:=a6.aE h.2 l g hl;refine aq (b:=bd.m) h.1 ⟨0, ?_⟩;rw[←rU l g,←xe];simp (maxSteps:=9^9) (disch:=(first|omega|(simp;done)|(simp;omega))) [bB,bd.m,bd.b,ab,h1]
def BS(l:List Int)(x:Int)(i:Nat)(s:List Int)(m:Nat×Nat):St:={t:=[(0,.c (ints l)),(1,.c (I x)),(5,.c (.row 8 m.1 0 s.length)),(6,.c (I i))],o:=[(8,⟨m.1,1,true,false,au s⟩)],n:=m.2}
def CC(l:List Int)(x:Int)(s:List Int)(m:Nat×Nat):St:={t:=[(0,.c (ints l)),(1,.c (I x)),(5,.c (.row 8 m.1 0 s.length)),(6,.c (I l.length)),(12,.c (.bool false))],o:=[(8,⟨m.1,1,true,false,au s⟩)],n:=m.2}
def BR(l:List Int)(x:Int)(i:Nat)(s:List Int)(m:Nat×Nat):St:={t:=[(0,.c (ints l)),(1,.c (I x)),(5,.c (.row 8 m.1 0 s.length)),(7,.c (I i))],o:=[(8,⟨m.1,1,true,false,au s⟩)],n:=m.2}
def CB(l:List Int)(x:Int)(s:List Int)(m:Nat×Nat):St:={t:=[(0,.c (ints l)),(1,.c (I x)),(5,.c (.row 8 m.1 0 s.length)),(7,.c (I l.length)),(35,.c (.bool false))],o:=[(8,⟨m.1,1,true,false,au s⟩)],n:=m.2}
theorem nB(p:Int→Bool):∀(l s:List Int),l.foldl (fun s a=>if p a=true then s++[a] else s) s=s++l.filter p
 |[],s=>by simp
 |a::l,s=>by
  rw[dW,nB p l,jA];by_cases h:p a=true<;>simp[h]
theorem jo(s:List Int)(a:Int):au (s++[a])=au s++[[I a]]:=by simp[au]
theorem bK(s:List Int):(au s).length=s.length:=by simp[au]
theorem bX.aE(h:bX.k M)(l:List Int)(x:Int)(hl:l.length≤16777216):run M 133 [.c (ints l),.c (I x)] []=some (.c (.sl true 1 (au (jY l x))),[]):=by
 refine aq (b:=bX.m) h ⟨l.length+1, ?_⟩;obtain⟨g,hr⟩:=lf (f:=b9 (run M) (l.length+1) bX.l0) l (fun s a=>if decide (a<x)=true then s++[a] else s) (fun i s=>s.length≤i) (BS l x) 0 (CC l x)
  (fun i h s hs=>by split<;>(try simp)<;>omega)
  (fun i hi s m hs=>by
   obtain⟨v,m⟩:=m;have e5:=dS (i:=i) (by omega);have e6:s.length+1≤4294967296:=by omega
   have e9:=bK s;simp only[bP];by_cases c:l[i]<x
   ·simp only[c,decide_true,if_true,BS,jo];generalize au s=rr at*;simp (maxSteps:=9^9) [bX.l0,hi,c,e5,e6,e9,aa]
   ·simp only[c,decide_false,az,if_false];simp (maxSteps:=9^9) [bX.l0,BS,hi,c,e5])
  (fun s m hs=>by
   obtain⟨v,m⟩:=m;simp only[bP];simp (maxSteps:=9^9) [bX.l0,BS,CC]) [] (by simp)
 obtain⟨g',hr'⟩:=lf (f:=b9 (run M) (l.length+1) bX.l1) l (fun s a=>if decide (x<a)=true then s++[a] else s) (fun i s=>s.length≤l.length+1+i) (BR l x) 2 (CB l x)
  (fun i h s hs=>by split<;>(try simp)<;>omega)
  (fun i hi s m hs=>by
   obtain⟨v,m⟩:=m;have e5:=dS (i:=i) (by omega);have e6:s.length+1≤4294967296:=by omega
   have e9:=bK s;simp only[bP];by_cases c:x<l[i]
   ·simp only[c,decide_true,if_true,BR,jo];generalize au s=rr at*;simp (maxSteps:=9^9) [bX.l1,hi,c,e5,e6,e9,aa]
   ·simp only[c,decide_false,az,if_false];simp (maxSteps:=9^9) [bX.l1,BR,hi,c,e5])
  (fun s m hs=>by
   obtain⟨v,m⟩:=m;simp only[bP];simp (maxSteps:=9^9) [bX.l1,BR,CB]) (l.filter (fun y=>decide (y<x))++[x]) (by have:=ea (fun y=>decide (y<x)) l;simp;omega)
 rw[nB] at hr hr';have hfl:=ea (fun y=>decide (y<x)) l;have e6:(l.filter (fun y=>decide (y<x))).length+1≤4294967296:=by omega
 have e9:=bK (l.filter (fun y=>decide (y<x)));have e10:=bK (l.filter (fun y=>decide (y<x))++[x]++l.filter (fun y=>decide (x<y)));have e11:(l.filter (fun y=>decide (y<x))++[x]++l.filter (fun y=>decide (x<y))).length=(l.filter (fun y=>decide (y<x))).length+((l.filter (fun y=>decide (x<y))).length+1):=by simp only[aN,d_];omega
 rw[e11] at e10;have e12:=jo (l.filter (fun y=>decide (y<x))) x;unfold jY;simp only[eu] at hr;simp only[BS,CC,ai] at hr;simp only[BR,CB,e12,e11,aN,d_] at hr';generalize au (l.filter (fun y=>decide (y<x))++[x]++l.filter (fun y=>decide (x<y)))=r2 at*;generalize au (l.filter (fun y=>decide (y<x)))=r1 at*;simp[au] at hr;simp at hr';simp (maxSteps:=9^9) [bB,bX.m,bX.b,ab,hr,hr',e6,e9,e10,aa]
structure GX where
 w:Nat
 v8:Nat
 v1:Nat
 v2:Nat
 r8:List (List T)
 r1:List (List T)
 n:Nat
theorem GX.of{p:GX→Prop}(w r8 r1)(h:∃v8 v1 v2 n,p ⟨w,v8,v1,v2,r8,r1,n⟩):∃x,p x:=by
 obtain⟨v8,v1,v2,n,h⟩:=h;exact⟨_,h⟩
def j7(b:cX)(i:Nat):Bool:=match b.af[i]? with
 |some m=> !gp m||decide (b.next≤m.uid)||(decide (0<i)&&match b.af[i-1]? with|some p=>decide (m.uid≤p.uid)|none=>false)|| !decide (di (dY b.af m.gid)=(i:Int))||decide (m.gid∈b.gone)
 |none=>false
theorem iR{b:cX}{i:Nat}(h:i<b.af.length):j7 b i=(!gp b.af[i]||decide (b.next≤b.af[i].uid)||(decide (0<i)&&decide (b.af[i].uid≤b.af[i-1].uid))||
  !decide (di (dY b.af b.af[i].gid)=(i:Int))||decide (b.af[i].gid∈b.gone)):=by
 simp[j7,h,(show i-1<b.af.length by omega)]
def eO(b:cX):Bool:=iT 1 b.gid 9999&&kH b.name&&gB b.time b.eP&&iT 1 b.next 10000&&decide (b.af.length≤10)&&gq b.gone 40&&(dn (j7 b) b.af.length).isNone
def lq(b:cX)(i:Nat)(x:Nat×Nat):St:={t:=[(1,.c (.ptr 1 x.1 0 0)),(3,.c (I i))],o:=[(1,⟨x.1,7,true,true,[ah b]⟩)],n:=x.2}
def wK(b:cX)(x:Nat×Nat):St:={t:=[(1,.c (.ptr 1 x.1 0 0)),(3,.c (I b.af.length)),(43,.c (.bool false))],o:=[(1,⟨x.1,7,true,true,[ah b]⟩)],n:=x.2}
theorem aU.mn(hat:aX.k M)(hin:bC.k M)(hmo:cM.k M)(b:cX)(hml:b.af.length≤1048576)(hgl:b.gone.length≤4611686018427387904)(hw:∀m∈b.af,m.flags.length≤1048576)
  (i:Nat) (hi:i<b.af.length) (x:Nat×Nat) (c:j7 b i=false):∃y,b9 (run M) (b.af.length+1) aU.l0 (lq b i x)=some (.normal,lq b (i+1) y):=by
   obtain⟨v,x⟩:=x;simp only[bP];have hm:=cM.aE hmo b.af[i] (hw _ (ax hi));have ha:=aX.aE hat b b.af[i].gid hml;have hg:=bC.aE hin b.gone b.af[i].gid hgl;simp only[aD,ah] at hm ha hg;rw[iR hi] at c;simp at c;obtain⟨⟨⟨⟨c1,c2⟩,c3⟩,c4⟩,c5⟩:=c;have e5:=dS (i:=i) (by omega);rw[c1] at hm;rw[c4] at ha;rw[decide_eq_false c5] at hg;have c2':¬b.next≤b.af[i].uid:=by omega
   by_cases c6:0<i
   ·have e6:IntKind.i64.wrap ((i:Int)-1)=((i-1:Nat):Int):=by rw[wrap_i64 (by omega) (by omega)];omega
    have c3':¬b.af[i].uid≤b.af[i-1].uid:=by have:=c3 c6;omega
    simp (maxSteps:=9^9) [aU.l0,setAt,lq,aD,hi,hm,ha,hg,c2',c6,c3',e5,e6,(show i-1<b.af.length by omega)]
   ·simp (maxSteps:=9^9) [aU.l0,setAt,lq,aD,hi,hm,ha,hg,c2',c6,e5]
theorem aU.bad(hat:aX.k M)(hin:bC.k M)(hmo:cM.k M)(b:cX)(hml:b.af.length≤1048576)(hgl:b.gone.length≤4611686018427387904)(hw:∀m∈b.af,m.flags.length≤1048576)
  (i:Nat) (hi:i<b.af.length) (x:Nat×Nat) (c:j7 b i=true):∃k,b9 (run M) (b.af.length+1) aU.l0 (lq b i x)=some (.ret,{t:=[(2,.c (.bool false))],o:=[],n:=k}):=by
   obtain⟨v,x⟩:=x;have hm:=cM.aE hmo b.af[i] (hw _ (ax hi));have ha:=aX.aE hat b b.af[i].gid hml;have hg:=bC.aE hin b.gone b.af[i].gid hgl;simp only[aD,ah] at hm ha hg;rw[iR hi] at c;cases c1:gp b.af[i]
   ·rw[c1] at hm;simp (maxSteps:=9^9) [aU.l0,setAt,lq,aD,hi,hm]
   rw[c1] at hm;by_cases c2:b.next≤b.af[i].uid
   ·simp (maxSteps:=9^9) [aU.l0,setAt,lq,aD,hi,hm,c2]
   have c2':¬b.next≤b.af[i].uid:=c2;by_cases c6:0<i
   ·have e6:IntKind.i64.wrap ((i:Int)-1)=((i-1:Nat):Int):=by rw[wrap_i64 (by omega) (by omega)];omega
    by_cases c3:b.af[i].uid≤b.af[i-1].uid
    ·simp (maxSteps:=9^9) [aU.l0,setAt,lq,aD,hi,hm,c2,c6,c3,e6,(show i-1<b.af.length by omega)]
    by_cases c5:b.af[i].gid∈b.gone
    ·rw[decide_eq_true c5] at hg;simp (maxSteps:=9^9) [aU.l0,setAt,lq,aD,hi,hm,c2,c6,c3,e6,(show i-1<b.af.length by omega),hg]
    rw[decide_eq_false c5] at hg;by_cases c4:di (dY b.af b.af[i].gid)=(i:Int)
    ·simp[c1,c2,c3,c4,c5] at c
    simp (maxSteps:=9^9) [aU.l0,setAt,lq,aD,hi,hm,c2,c6,c3,e6,(show i-1<b.af.length by omega),ha,hg,c4]
   ·have c3:=c6;by_cases c5:b.af[i].gid∈b.gone
    ·rw[decide_eq_true c5] at hg;simp (maxSteps:=9^9) [aU.l0,setAt,lq,aD,hi,hm,c2,c6,hg]
    rw[decide_eq_false c5] at hg;by_cases c4:di (dY b.af b.af[i].gid)=(i:Int)
    ·simp[c1,c2,c3,c4,c5] at c
    simp (maxSteps:=9^9) [aU.l0,setAt,lq,aD,hi,hm,c2,c6,ha,hg,c4]
theorem aU.aE(h:aU.k M)(b:cX)(hml:b.af.length≤1048576)(hgl:b.gone.length≤4611686018427387904)(hnl:b.name.length≤4611686018427387904)(hw:∀m∈b.af,m.flags.length≤1048576):
  run M 88 [.a (ah b)] []=some (.c (.bool (eO b)),[]):=by
 obtain⟨h0,hno,hat,hwi,hin,hso,hgo,hmo⟩:=h;have h1:=bh.iT hwi b.gid 1 9999;have h2:=cC.aE hno b.name hnl;have h3:=de.aE hso b.time b.eP;have h4:=bh.iT hwi b.next 1 10000;have h5:=bu.aE hgo b.gone 40 hgl;refine aq (b:=aU.m) h0 ⟨b.af.length+1, ?_⟩;obtain⟨g,hr⟩:=eZ (f:=b9 (run M) (b.af.length+1) aU.l0) b.af.length (j7 b) (lq b) 2 (.bool false) 0 (wK b)
  (fun i hi x c=>aU.mn hat hin hmo b hml hgl hw i hi x c)
  (fun i hi x c=>aU.bad hat hin hmo b hml hgl hw i hi x c)
  (fun x=>by
   obtain⟨v,x⟩:=x;simp only[bP];simp (maxSteps:=9^9) [aU.l0,lq,wK])
 cases c1:iT 1 b.gid 9999
 ·simp (maxSteps:=9^9) [bB,aU.m,aU.b,ab,h1,c1,eO]
 cases c2:kH b.name
 ·simp (maxSteps:=9^9) [bB,aU.m,aU.b,ab,h1,h2,c1,c2,eO]
 cases c3:gB b.time b.eP
 ·simp (maxSteps:=9^9) [bB,aU.m,aU.b,ab,h1,h2,h3,c1,c2,c3,eO]
 cases c4:iT 1 b.next 10000
 ·simp (maxSteps:=9^9) [bB,aU.m,aU.b,ab,h1,h2,h3,h4,c1,c2,c3,c4,eO]
 by_cases c5:10<b.af.length
 ·have c5':¬b.af.length≤10:=by omega
  have ci:(10:Int)<b.af.length:=by omega
  simp (maxSteps:=9^9) [bB,aU.m,aU.b,ab,h1,h2,h3,h4,c1,c2,c3,c4,c5',ci,eO]
 have c5':b.af.length≤10:=by omega
 have ci:¬(10:Int)<b.af.length:=by omega
 cases c6:gq b.gone 40
 ·simp (maxSteps:=9^9) [bB,aU.m,aU.b,ab,h1,h2,h3,h4,h5,c1,c2,c3,c4,ci,c6,eO]
 cases q:dn (j7 b) b.af.length with
 |none=>
  simp[lq,wK,q,ib] at hr;simp (maxSteps:=9^9) [bB,aU.m,aU.b,ab,h1,h2,h3,h4,h5,c1,c2,c3,c4,c5',ci,c6,hr,eO,q]
 |some k=>
  simp[lq,q,ib] at hr;simp (maxSteps:=9^9) [bB,aU.m,aU.b,ab,h1,h2,h3,h4,h5,c1,c2,c3,c4,c5',ci,c6,hr,eO,q]
structure aP where
 eP:Int
 time:Int
 boxes:List cX
 gone:List Int
abbrev boxes(l:List cX):T:= .sl false 7 (l.map ah)
abbrev ao(s:aP):List T:=[I s.eP,I s.time,boxes s.boxes,ints s.gone]
abbrev bm(s:aP):List T:=[I s.eP,I s.time,.sl true 7 (s.boxes.map ah),.sl true 1 (au s.gone)]
def xL{α:Type}(p:α→Bool)(l:List α)(i:Nat):Bool:=match l[i]? with
 |some x=>p x
 |none=>false
theorem lN{α:Type}{p:α→Bool}{l:List α}{i:Nat}(h:i<l.length):xL p l i=p l[i]:=by simp[xL,h]
theorem kO{α:Type}(p:α→Bool)(l:List α):∀d i,i+d=l.length→gF (xL p l) d i=((l.drop i).findIdx? p).map (·+i)
 |0,i,h=>by rw[gF,dQ (by omega)];rfl
 |d+1,i,h=>by
  have hi:i<l.length:=by omega
  rw[gF,lN hi,cB hi,List.findIdx?_cons];split
  ·simp
  ·rw[kO p l d (i+1) (by omega),Option.map_map];congr 1;funext x;simp only[Function.comp];omega
theorem kN{α:Type}(p:α→Bool)(l:List α):dn (xL p l) l.length=l.findIdx? p:=by
 rw[dn,kO p l _ _ (by omega)];simp
theorem oO{α:Type}(p:α→Bool)(l:List α):(dn (xL p l) l.length).isSome=l.any p:=by
 rw[kN,List.findIdx?_isSome]
def named(l:List cX)(s:List UInt8):Option Nat:=l.findIdx? fun b=>decide (b.name=s)
def Bo(st:aP)(s:List UInt8)(i:Nat)(x:Nat×Nat):St:={t:=[(1,.c (S s)),(2,.c (.ptr 2 x.1 0 0)),(5,.c (I i))],o:=[(2,⟨x.1,4,true,true,[ao st]⟩)],n:=x.2}
def xo{β:Type}(r:Nat)(e:Nat)(E:β→St)(q:Option Nat)(m:β×Nat):Out×St:=match q with
 |none=>(.exit e,E m.1)
 |some k=>(.ret,{t:=[(r,.c (I k))],o:=[],n:=m.2})
theorem ti{β γ:Type}(n:Nat)(p:Nat→Bool){f:St→Option (Out×St)}(S:Nat→β→St)(r:Nat)(e:Nat)(E:γ→St)(z:γ)
  (h1:∀i,i<n→∀x,p i=false→∃y,f (S i x)=some (.normal,S (i+1) y)) (h2:∀i,i<n→∀x,p i=true→∃k,f (S i x)=some (.ret,{t:=[(r,.c (I i))],o:=[],n:=k}))
  (h3:∀x,∃y,f (S n x)=some (.exit e,E y)):∃g:β→γ×Nat,∀x,dP f (n+1) (S 0 x)=some (xo r e E (dn p n) (g x)):=
 gV n p S (xo r e E) (fun q m=>by cases q<;>simp[xo]) h1 (fun i hi x c=>by
  obtain⟨k,hk⟩:=h2 i hi x c;exact⟨(z,k),hk⟩) (fun x=>by
  obtain⟨y,hy⟩:=h3 x;exact⟨(y,0),hy⟩)
def CF(st:aP)(s:List UInt8)(x:Nat×Nat):St:={t:=[(1,.c (S s)),(2,.c (.ptr 2 x.1 0 0)),(5,.c (I st.boxes.length)),(10,.c (.bool false))],o:=[(2,⟨x.1,4,true,true,[ao st]⟩)],n:=x.2}
theorem bg.aE(h:bg.k M)(st:aP)(s:List UInt8)(hb:st.boxes.length≤1048576):run M 226 [.a (ao st),.c (S s)] []=some (.c (I (di (named st.boxes s))),[]):=by
 refine aq (b:=bg.m) h ⟨st.boxes.length+1, ?_⟩;obtain⟨g,hr⟩:=ti (f:=b9 (run M) (st.boxes.length+1) bg.l0) st.boxes.length (xL (fun b=>decide (b.name=s)) st.boxes) (Bo st s) 4 0 (CF st s) (0,0)
  (fun i hi x c=>by
   obtain⟨v,x⟩:=x;rw[lN hi,decide_eq_false_iff_not] at c;have e5:=dS (i:=i) (by omega);simp only[bP];simp (maxSteps:=9^9) [bg.l0,Bo,hi,c,ah,e5])
  (fun i hi x c=>by
   obtain⟨v,x⟩:=x;rw[lN hi,decide_eq_true_eq] at c;simp (maxSteps:=9^9) [bg.l0,Bo,hi,c,ah])
  (fun x=>by
   obtain⟨v,x⟩:=x;simp only[bP];simp (maxSteps:=9^9) [bg.l0,Bo,CF])
 rw[kN] at hr;unfold named;cases hm:st.boxes.findIdx? fun b=>decide (b.name=s) with
 |none=>
  simp[Bo,hm,xo,CF] at hr;simp (maxSteps:=9^9) [bB,bg.m,bg.b,ab,hr,di]
 |some k=>
  simp[Bo,hm,xo] at hr;simp (maxSteps:=9^9) [bB,bg.m,bg.b,ab,hr,di]
def rS(time:Int)(m:fi):Bool:=m.flags.any fun r=>decide (time<r.time)
def late(b:cX)(time:Int):Bool:=decide (time<b.time)||b.af.any (rS time)
theorem any_none{α:Type}{p:α→Bool}{l:List α}(h:l.any p=false):dn (xL p l) l.length=none:=by
 have:=oO p l;rw[h] at this;simpa using this
theorem any_some{α:Type}{p:α→Bool}{l:List α}(h:l.any p=true):∃k,dn (xL p l) l.length=some k:=by
 have:=oO p l;rw[h] at this;exact Option.isSome_iff_exists.1 this
def uT(b:cX)(time:Int)(i:Nat)(x:Nat×Nat):St:={t:=[(1,.c (I time)),(2,.c (.ptr 2 x.1 0 0)),(5,.c (I i))],o:=[(2,⟨x.1,7,true,true,[ah b]⟩)],n:=x.2}
def AJ(b:cX)(time:Int)(x:Nat×Nat):St:={t:=[(1,.c (I time)),(2,.c (.ptr 2 x.1 0 0)),(5,.c (I b.af.length)),(16,.c (.bool false))],o:=[(2,⟨x.1,7,true,true,[ah b]⟩)],n:=x.2}
def sP(b:cX)(time:Int)(i:Nat)(k:Nat)(x:Nat×Nat):St:={t:=[(1,.c (I time)),(2,.c (.ptr 2 x.1 0 0)),(5,.c (I i)),(6,.c (I k))],o:=[(2,⟨x.1,7,true,true,[ah b]⟩)],n:=x.2}
def yT(b:cX)(time:Int)(i:Nat)(k:Nat)(x:Nat×Nat):St:={t:=[(1,.c (I time)),(2,.c (.ptr 2 x.1 0 0)),(5,.c (I i)),(6,.c (I k)),(27,.c (.bool false))],o:=[(2,⟨x.1,7,true,true,[ah b]⟩)],n:=x.2}
theorem a9.inner(b:cX)(time:Int)(i K:Nat)(hi:i<b.af.length)(hl:b.af[i].flags.length≤1048576):∃g:Nat×Nat→(Nat×Nat)×Nat,∀x,dP (b9 (run M) K a9.l1) (b.af[i].flags.length+1) (sP b time i 0 x)=some (ib 4 (.bool false) 2 (yT b time i b.af[i].flags.length) (dn (xL (fun r=>decide (time<r.time)) b.af[i].flags) b.af[i].flags.length) (g x)):=
 eZ b.af[i].flags.length (xL (fun r=>decide (time<r.time)) b.af[i].flags) (sP b time i) 4 (.bool false) 2 (yT b time i b.af[i].flags.length)
  (fun k hk x c=>by
   obtain⟨v,x⟩:=x;rw[lN hk,decide_eq_false_iff_not] at c;have e5:=dS (i:=k) (by omega);simp only[bP];simp (maxSteps:=9^9) [a9.l1,sP,hi,hk,c,cA,aD,e5])
  (fun k hk x c=>by
   obtain⟨v,x⟩:=x;rw[lN hk,decide_eq_true_eq] at c;simp (maxSteps:=9^9) [a9.l1,sP,hi,hk,c,cA,aD])
  (fun x=>by
   obtain⟨v,x⟩:=x;simp only[bP];simp (maxSteps:=9^9) [a9.l1,sP,yT,hi,aD])
theorem a9.aE(h:a9.k M)(b:cX)(time:Int)(hb:b.af.length≤1048576)(hf:∀m∈b.af,m.flags.length≤1048576):run M 227 [.a (ah b),.c (I time)] []=some (.c (.bool (!late b time)),[]):=by
 refine aq (b:=a9.m) h ⟨b.af.length+1048577, ?_⟩;obtain⟨K,hK⟩:∃K,b.af.length+1048577=K:=⟨_,rfl⟩
 rw[hK];obtain⟨g,hr⟩:=eZ (f:=b9 (run M) K a9.l0) b.af.length (xL (rS time) b.af) (uT b time) 4 (.bool false) 0 (AJ b time)
  (fun i hi x c=>by
   obtain⟨v,x⟩:=x;rw[lN hi,rS] at c;have e5:=dS (i:=i) (by omega);have hfl:=hf _ (ax hi);obtain⟨g,hr⟩:=a9.inner (M:=M) b time i K hi hfl;rw[any_none c] at hr;have hr2:=fun x=>gE (hr x) (show b.af[i].flags.length+1≤K by omega)
   simp[sP,yT,ib] at hr2;simp only[bP];simp (maxSteps:=9^9) [a9.l0,uT,hi,e5,hr2])
  (fun i hi x c=>by
   obtain⟨v,x⟩:=x;rw[lN hi,rS] at c;have hfl:=hf _ (ax hi);obtain⟨g,hr⟩:=a9.inner (M:=M) b time i K hi hfl;obtain⟨k,hk⟩:=any_some c;rw[hk] at hr;have hr2:=fun x=>gE (hr x) (show b.af[i].flags.length+1≤K by omega)
   simp[sP,ib] at hr2;simp (maxSteps:=9^9) [a9.l0,uT,hi,hr2])
  (fun x=>by
   obtain⟨v,x⟩:=x;simp only[bP];simp (maxSteps:=9^9) [a9.l0,uT,AJ])
 have hr2:=fun x=>gE (hr x) (show b.af.length+1≤K by omega)
 unfold late;by_cases c0:time<b.time
 ·simp (maxSteps:=9^9) [bB,a9.m,a9.b,ab,c0]
 cases c:b.af.any (rS time)
 ·rw[any_none c] at hr2;simp[uT,AJ,ib] at hr2;simp (maxSteps:=9^9) [bB,a9.m,a9.b,ab,hr2,c0]
 ·obtain⟨k,hk⟩:=any_some c;rw[hk] at hr2;simp[uT,ib] at hr2;simp (maxSteps:=9^9) [bB,a9.m,a9.b,ab,hr2,c0]
def aI(b:cX):List Int:=b.af.map (·.gid)
def seenAt(s:aP)(i:Nat):List Int:=(s.boxes.take i).flatMap aI
theorem kG{s:aP}{i:Nat}(h:i<s.boxes.length):seenAt s (i+1)=seenAt s i++aI s.boxes[i]:=by
 rw[seenAt,seenAt,List.take_succ_eq_append_getElem h,List.flatMap_append];simp
def oU(seen l:List Int)(k:Nat):Bool:=match l[k]? with
 |some g=>decide (g∈seen++l.take k)
 |none=>false
theorem mw{seen l:List Int}{k:Nat}(h:k<l.length):oU seen l k=decide (l[k]∈seen++l.take k):=by simp[oU,h]
def pB(seen l:List Int):Bool:=(dn (oU seen l) l.length).isSome
def m9(s:aP)(i:Nat):Bool:=match s.boxes[i]? with
 |some b=> !eO b||(decide (0<i)&&match s.boxes[i-1]? with|some p=>decide (b.gid≤p.gid)|none=>false)|| !decide (di (named s.boxes b.name)=(i:Int))||decide (b.gid∈s.gone)||late b s.time
 |none=>false
theorem lj{s:aP}{i:Nat}(h:i<s.boxes.length):m9 s i=(!eO s.boxes[i]||(decide (0<i)&&decide (s.boxes[i].gid≤s.boxes[i-1].gid))|| !decide (di (named s.boxes s.boxes[i].name)=(i:Int))||
  decide (s.boxes[i].gid∈s.gone)||late s.boxes[i] s.time):=by simp[m9,h,(show i-1<s.boxes.length by omega)]
def mC(s:aP)(i:Nat):Bool:=m9 s i||match s.boxes[i]? with
 |some b=>pB (seenAt s i) (aI b)
 |none=>false
theorem jw{s:aP}{i:Nat}(h:i<s.boxes.length):mC s i=(m9 s i||pB (seenAt s i) (aI s.boxes[i])):=by simp[mC,h]
def aW(s:aP):Bool:=iT 1 s.eP 2&&iT 0 s.time 100000&&decide (s.boxes.length≤5)&&gq s.gone 20&&(dn (mC s) s.boxes.length).isNone
structure ik (b:cX):Prop where
 m:b.af.length≤1048576
 g:b.gone.length≤1048576
 n:b.name.length≤1048576
 f:∀m∈b.af,m.flags.length≤1048576
structure gh (s:aP):Prop where
 b:s.boxes.length≤1048576
 g:s.gone.length≤1048576
 i:∀b∈s.boxes,ik b
 s:(s.boxes.flatMap aI).length≤1048576
theorem pN{s:aP}(h:gh s)(i:Nat):(seenAt s i).length≤1048576:=by
 refine Nat.le_trans ?_ h.s
 conv=>rhs;rw[←dE i s.boxes]
 rw[List.flatMap_append,aN];exact Nat.le_add_right _ _
theorem gr(b:cX):(aI b).length=b.af.length:=by simp[aI]
theorem mW(b:cX)(k:Nat)(h:k<(aI b).length):(aI b)[k]=(b.af[k]'(by simpa [aI] using h)).gid:=by simp[aI]
theorem ik.ok{b:cX}(h:ik b):b.af.length≤1048576∧b.gone.length≤4611686018427387904∧b.name.length≤4611686018427387904∧∀m∈b.af,m.flags.length≤1048576:=⟨h.m,by have:=h.g;omega,by have:=h.n;omega,h.f⟩
def AK(s:aP)(seen:List Int)(x:Nat×Nat×Nat):List (Nat×Ob):=[(1,⟨x.1,4,true,true,[ao s]⟩),(29,⟨x.2.1,1,true,false,au seen⟩)]
def qt(s:aP)(i:Nat)(x:Nat×Nat×Nat):St:={t:=[(1,.c (.ptr 1 x.1 0 0)),(3,.c (.row 29 x.2.1 0 (seenAt s i).length)),(4,.c (I i))],o:=AK s (seenAt s i) x,n:=x.2.2}
def AM(s:aP)(x:Nat×Nat×Nat):St:={t:=[(1,.c (.ptr 1 x.1 0 0)),(3,.c (.row 29 x.2.1 0 (seenAt s s.boxes.length).length)),(4,.c (I s.boxes.length)),(34,.c (.bool false))],o:=AK s (seenAt s s.boxes.length) x,n:=x.2.2}
def sS(s:aP)(b:cX)(seen:List Int)(x:Nat×Nat×Nat×Nat):List (Nat×Ob):=[(1,⟨x.1,4,true,true,[ao s]⟩),(5,⟨x.2.2.1,7,true,true,[ah b]⟩),(29,⟨x.2.1,1,true,false,au seen⟩)]
def sR(s:aP)(b:cX)(seen:List Int)(i k:Nat)(x:Nat×Nat×Nat×Nat):St:={t:=[(1,.c (.ptr 1 x.1 0 0)),(3,.c (.row 29 x.2.1 0 (seen.length+k))),(4,.c (I i)),(5,.c (.ptr 5 x.2.2.1 0 0)),(6,.c (I k))],o:=sS s b (seen++(aI b).take k) x,n:=x.2.2.2}
def yV(s:aP)(b:cX)(seen:List Int)(i:Nat)(x:Nat×Nat×Nat×Nat):St:={t:=[(1,.c (.ptr 1 x.1 0 0)),(3,.c (.row 29 x.2.1 0 (seen.length+b.af.length))),(4,.c (I i)),(5,.c (.ptr 5 x.2.2.1 0 0)),(6,.c (I b.af.length)),(87,.c (.bool false))],o:=sS s b (seen++aI b) x,n:=x.2.2.2}
theorem aC.inner(hin:bC.k M)(s:aP)(b:cX)(seen:List Int)(i K:Nat)(hl:b.af.length≤1048576)(hs:seen.length≤1048576):
  ∃g:Nat×Nat×Nat×Nat→(Nat×Nat×Nat×Nat)×Nat,∀x,dP (b9 (run M) K aC.l1) (b.af.length+1) (sR s b seen i 0 x)=some (ib 2 (.bool false) 2 (yV s b seen i) (dn (oU seen (aI b)) b.af.length) (g x)):=
 eZ b.af.length (oU seen (aI b)) (sR s b seen i) 2 (.bool false) 2 (yV s b seen i)
  (fun k hk x c=>by
   obtain⟨v,w,z,x⟩:=x;have hk':k<(aI b).length:=by rw[gr];exact hk
   rw[mw hk'] at c;have hlen:(seen++(aI b).take k).length=seen.length+k:=by rw[aN,dJ,Nat.min_eq_left (by omega)]
   have h1:=bC.aE hin (seen++(aI b).take k) (aI b)[k] (by rw[hlen];omega);rw[c] at h1;rw[mW] at h1;simp only[ints] at h1;have e5:=dS (i:=k) (by omega);have e6:seen.length+(k+1)≤4294967296:=by omega
   have e7:seen++(aI b).take (k+1)=(seen++(aI b).take k)++[b.af[k].gid]:=by rw[List.take_succ_eq_append_getElem hk',mW,cY]
   have e8:au ((seen++(aI b).take k)++[b.af[k].gid])=au (seen++(aI b).take k)++[[I b.af[k].gid]]:=by simp[au]
   have e9:(au (seen++(aI b).take k)).length=seen.length+k:=by simp only[au,fC];exact hlen
   simp only[bP,sR,sS,e7,e8];generalize au (seen++(aI b).take k)=rr at*;simp (maxSteps:=9^9) [aC.l1,hk,h1,aD,e5,e6,e9,aa,Nat.add_assoc];exact⟨_,_,_,⟨rfl,rfl,rfl⟩,rfl,rfl,rfl⟩)
  (fun k hk x c=>by
   obtain⟨v,w,z,x⟩:=x;have hk':k<(aI b).length:=by rw[gr];exact hk
   rw[mw hk'] at c;have hlen:(seen++(aI b).take k).length=seen.length+k:=by rw[aN,dJ,Nat.min_eq_left (by omega)]
   have h1:=bC.aE hin (seen++(aI b).take k) (aI b)[k] (by rw[hlen];omega);rw[c] at h1;rw[mW] at h1;simp only[ints] at h1;have e9:(au (seen++(aI b).take k)).length=seen.length+k:=by simp only[au,fC];exact hlen
   simp only[sR,sS];generalize au (seen++(aI b).take k)=rr at*;simp (maxSteps:=9^9) [aC.l1,hk,h1,aD,e9,aa])
  (fun x=>by
   obtain⟨v,w,z,x⟩:=x;have e7:(aI b).take b.af.length=aI b:=aa (by rw[gr];omega);simp only[bP,sR,yV,sS,e7];simp (maxSteps:=9^9) [aC.l1];exact⟨_,_,_,⟨rfl,rfl,rfl⟩,rfl,rfl,rfl⟩)
structure aC.ks (M:Nat→Option Body):Prop where
 box:aU.k M
 Cj:bC.k M
 CP:bg.k M
 CQ:a9.k M
theorem aC.mn(h:aC.ks M)(s:aP)(hs:gh s)(K:Nat)(hK:2000000≤K)(i:Nat)(hi:i<s.boxes.length)(x:Nat×Nat×Nat)(c:mC s i=false):
  ∃y,b9 (run M) K aC.l0 (qt s i x)=some (.normal,qt s (i+1) y):=by
 have hb:=hs.i _ (ax hi);have h1:=aU.aE h.box s.boxes[i] hb.ok.1 hb.ok.2.1 hb.ok.2.2.1 hb.ok.2.2.2;have h2:=bg.aE h.CP s s.boxes[i].name hs.b;have h3:=bC.aE h.Cj s.gone s.boxes[i].gid (by have:=hs.g;omega);have h4:=a9.aE h.CQ s.boxes[i] s.time hb.m hb.f;have hsl:=pN hs i;obtain⟨g,hr⟩:=aC.inner h.Cj s s.boxes[i] (seenAt s i) i K hb.m hsl;have hr2:=fun x=>gE (hr x) (show s.boxes[i].af.length+1≤K by have:=hb.m;omega)
 rw[jw hi,lj hi] at c;simp only[dM,Bool.and_eq_false_iff,Bool.not_eq_false',decide_eq_false_iff_not,decide_eq_true_eq] at c;obtain⟨⟨⟨⟨⟨c1,c2⟩,c3⟩,c4⟩,c5⟩,c6⟩:=c;have e5:IntKind.i64.wrap ((i:Int)+1)=(i:Int)+1:=wrap_i64 (by have:=hs.b;omega) (by have:=hs.b;omega);rw[c1] at h1;rw[c3] at h2;rw[decide_eq_false c4] at h3;rw[c5] at h4;have q:dn (oU (seenAt s i) (aI s.boxes[i])) s.boxes[i].af.length=none:=by
  unfold pB at c6;rw[gr] at c6;simpa using c6
 rw[q] at hr2;obtain⟨v,w,x⟩:=x;simp only[ah,ao] at h1 h2 h4;simp only[ints] at h3;have hz:au (seenAt s i++aI s.boxes[i])=au (seenAt s i)++au (aI s.boxes[i]):=by simp[au]
 simp[sR,yV,sS,ib] at hr2;simp only[qt,AK,kG hi,bP];have hgl:=gr s.boxes[i];by_cases c7:0<i
 ·have e6:IntKind.i64.wrap ((i:Int)-1)=((i-1:Nat):Int):=by rw[wrap_i64 (by have:=hs.b;omega) (by have:=hs.b;omega)];omega
  have c2':¬s.boxes[i].gid≤s.boxes[i-1].gid:=by
   rcases c2 with c2|c2
   ·exact absurd c7 c2
   ·exact c2
  simp (maxSteps:=9^9) [aC.l0,ab,setAt,hi,h1,h2,h3,h4,c7,c2',e5,e6,hr2,hgl,ah,(show i-1<s.boxes.length by omega)]
 ·simp (maxSteps:=9^9) [aC.l0,ab,setAt,hi,h1,h2,h3,h4,c7,e5,hr2,hgl,ah]
theorem aC.bad(h:aC.ks M)(s:aP)(hs:gh s)(K:Nat)(hK:2000000≤K)(i:Nat)(hi:i<s.boxes.length)(x:Nat×Nat×Nat)(c:mC s i=true):
  ∃k,b9 (run M) K aC.l0 (qt s i x)=some (.ret,{t:=[(2,.c (.bool false))],o:=[],n:=k}):=by
 have hb:=hs.i _ (ax hi);have h1:=aU.aE h.box s.boxes[i] hb.ok.1 hb.ok.2.1 hb.ok.2.2.1 hb.ok.2.2.2;have h2:=bg.aE h.CP s s.boxes[i].name hs.b;have h3:=bC.aE h.Cj s.gone s.boxes[i].gid (by have:=hs.g;omega);have h4:=a9.aE h.CQ s.boxes[i] s.time hb.m hb.f;have hsl:=pN hs i;obtain⟨g,hr⟩:=aC.inner h.Cj s s.boxes[i] (seenAt s i) i K hb.m hsl;have hr2:=fun x=>gE (hr x) (show s.boxes[i].af.length+1≤K by have:=hb.m;omega)
 rw[jw hi,lj hi] at c;obtain⟨v,w,x⟩:=x;simp only[ah,ao] at h1 h2 h4;simp only[ints] at h3;simp only[qt,AK];cases c1:eO s.boxes[i]
 ·rw[c1] at h1;simp (maxSteps:=9^9) [aC.l0,ab,setAt,hi,h1,ah]
 rw[c1] at h1;have tail:∀(hp:¬0<i∨¬s.boxes[i].gid≤s.boxes[i-1].gid),∃k,b9 (run M) K aC.l0 {t:=[(1,.c (.ptr 1 v 0 0)),(3,.c (.row 29 w 0 (seenAt s i).length)),(4,.c (I i))],o:=[(1,⟨v,4,true,true,[ao s]⟩),(29,⟨w,1,true,false,au (seenAt s i)⟩)],n:=x}=some (.ret,{t:=[(2,.c (.bool false))],o:=[],n:=k}):=by
  intro hp;have hpp:(decide (0<i)&&decide (s.boxes[i].gid≤s.boxes[i-1].gid))=false:=by
   rcases hp with hp|hp<;>simp[hp]
  have key:(∀(Q:Prop),(0<i→¬s.boxes[i].gid≤s.boxes[i-1].gid→Q)→(¬0<i→Q)→Q):=by
   intro Q q1 q2;by_cases c7:0<i
   ·rcases hp with hp|hp
    ·exact absurd c7 hp
    ·exact q1 c7 hp
   ·exact q2 c7
  have e6:0<i→IntKind.i64.wrap ((i:Int)-1)=((i-1:Nat):Int):=fun c7=>by rw[wrap_i64 (by have:=hs.b;omega) (by have:=hs.b;omega)];omega
  have hi1:i-1<s.boxes.length:=by omega
  by_cases c3:di (named s.boxes s.boxes[i].name)=(i:Int);rotate_left
  ·exact key _ (fun c7 c2=>by simp (maxSteps:=9^9) [aC.l0,ab,setAt,hi,h1,h2,c7,c2,c3,e6 c7,ah,hi1]) (fun c7=>by simp (maxSteps:=9^9) [aC.l0,ab,setAt,hi,h1,h2,c7,c3,ah])
  rw[c3] at h2;by_cases c4:s.boxes[i].gid∈s.gone
  ·rw[decide_eq_true c4] at h3;exact key _ (fun c7 c2=>by simp (maxSteps:=9^9) [aC.l0,ab,setAt,hi,h1,h2,h3,c7,c2,e6 c7,ah,hi1]) (fun c7=>by simp (maxSteps:=9^9) [aC.l0,ab,setAt,hi,h1,h2,h3,c7,ah])
  rw[decide_eq_false c4] at h3;cases c5:late s.boxes[i] s.time;rotate_left
  ·rw[c5] at h4;exact key _ (fun c7 c2=>by simp (maxSteps:=9^9) [aC.l0,ab,setAt,hi,h1,h2,h3,h4,c7,c2,e6 c7,ah,hi1]) (fun c7=>by simp (maxSteps:=9^9) [aC.l0,ab,setAt,hi,h1,h2,h3,h4,c7,ah])
  rw[c5] at h4;have c6:pB (seenAt s i) (aI s.boxes[i])=true:=by
   rw[c1,hpp,c3,c5] at c;simpa [c4] using c
  obtain⟨k,hk⟩:∃k,dn (oU (seenAt s i) (aI s.boxes[i])) s.boxes[i].af.length=some k:=by
   unfold pB at c6;rw[gr] at c6;exact Option.isSome_iff_exists.1 c6
  rw[hk] at hr2;simp[sR,sS,ib] at hr2;have hgl:=gr s.boxes[i];exact key _ (fun c7 c2=>by simp (maxSteps:=9^9) [aC.l0,ab,setAt,hi,h1,h2,h3,h4,c7,c2,e6 c7,hr2,ah,hi1]) (fun c7=>by simp (maxSteps:=9^9) [aC.l0,ab,setAt,hi,h1,h2,h3,h4,c7,hr2,ah])
 by_cases c7:0<i
 ·by_cases c2:s.boxes[i].gid≤s.boxes[i-1].gid
  ·have e6:IntKind.i64.wrap ((i:Int)-1)=((i-1:Nat):Int):=by rw[wrap_i64 (by have:=hs.b;omega) (by have:=hs.b;omega)];omega
   simp (maxSteps:=9^9) [aC.l0,ab,setAt,hi,h1,c7,c2,e6,ah,(show i-1<s.boxes.length by omega)]
  ·exact tail (.inr c2)
 ·exact tail (.inl c7)
theorem aC.aE(h:aC.k M)(s:aP)(hs:gh s):run M 149 [.a (ao s)] []=some (.c (.bool (aW s)),[]):=by
 obtain⟨h0,k1,k2,k3,k4,k5,k6⟩:=h;have h1:=bh.iT k2 s.eP 1 2;have h2:=bh.iT k2 s.time 0 100000;have h3:=bu.aE k4 s.gone 20 (by have:=hs.g;omega);refine aq (b:=aC.m) h0 ⟨4000000, ?_⟩;obtain⟨K,hK⟩:∃K,4000000=K:=⟨_,rfl⟩
 rw[hK];obtain⟨g,hr⟩:=eZ (f:=b9 (run M) K aC.l0) s.boxes.length (mC s) (qt s) 2 (.bool false) 0 (AM s)
  (fun i hi x c=>aC.mn ⟨k1,k3,k5,k6⟩ s hs K (by omega) i hi x c)
  (fun i hi x c=>aC.bad ⟨k1,k3,k5,k6⟩ s hs K (by omega) i hi x c)
  (fun x=>by
   obtain⟨v,w,x⟩:=x;simp only[bP];simp (maxSteps:=9^9) [aC.l0,ab,qt,AM,AK])
 have hr2:=fun x=>gE (hr x) (show s.boxes.length+1≤K by have:=hs.b;omega)
 cases c1:iT 1 s.eP 2
 ·simp (maxSteps:=9^9) [bB,aC.m,aC.b,ab,h1,c1,aW]
 cases c2:iT 0 s.time 100000
 ·simp (maxSteps:=9^9) [bB,aC.m,aC.b,ab,h1,h2,c1,c2,aW]
 by_cases c3:5<s.boxes.length
 ·have c3':¬s.boxes.length≤5:=by omega
  have ci:(5:Int)<s.boxes.length:=by omega
  simp (maxSteps:=9^9) [bB,aC.m,aC.b,ab,h1,h2,c1,c2,c3',ci,aW]
 have c3':s.boxes.length≤5:=by omega
 have ci:¬(5:Int)<s.boxes.length:=by omega
 cases c4:gq s.gone 20
 ·simp (maxSteps:=9^9) [bB,aC.m,aC.b,ab,h1,h2,h3,c1,c2,ci,c4,aW]
 have hz:seenAt s 0=[]:=by simp[seenAt]
 cases q:dn (mC s) s.boxes.length with
 |none=>
  simp[qt,AM,AK,q,ib,hz,au] at hr2;simp (maxSteps:=9^9) [bB,aC.m,aC.b,ab,h1,h2,h3,c1,c2,c3',ci,c4,hr2,aW,q]
 |some k=>
  simp[qt,AK,q,ib,hz,au] at hr2;simp (maxSteps:=9^9) [bB,aC.m,aC.b,ab,h1,h2,h3,c1,c2,c3',ci,c4,hr2,aW,q]
theorem fV{a n b:Int}:iT a n b=true↔a≤n∧n≤b:=by simp[iT]
def isVar(n:Int):Prop:=0≤n∧n≤1000000000
theorem mr{l:List jB}(h:iA l=true):l.length=3∧∀r∈l,lZ r=true:=by
 simp only[iA,aj,decide_eq_true_eq,da,en] at h;refine⟨h.2,fun r hr=> ?_⟩;obtain⟨i,hi,e⟩:=cr hr;have:=h.1 i hi;rw[lM hi,e] at this;simp at this;exact this.1
theorem hJ{m:fi}(h:gp m=true):isVar m.gid∧isVar m.uid∧m.flags.length=3∧(∀r∈m.flags,lZ r=true)∧m.text.length≤60:=by
 simp only[gp,aj,fV,decide_eq_true_eq] at h;have hf:=mr h.1.2;exact⟨⟨by omega,by omega⟩,⟨by omega,by omega⟩,hf.1,hf.2,h.2⟩
theorem qp{t w:Int}(h:gB t w=true):isVar t∧isVar w:=by
 simp only[gB,aj,fV] at h;unfold isVar;omega
theorem kK{l:List Int}{most:Int}(h:gq l most=true):(l.length:Int)≤most∧∀n∈l,1≤n∧n≤9999:=by
 simp only[gq,aj,decide_eq_true_eq,da,en] at h;refine⟨h.2,fun r hr=> ?_⟩;obtain⟨i,hi,e⟩:=cr hr;have:=h.1 i hi;rw[jv hi,e] at this;simp at this;exact fV.1 this.1
theorem jU{l:List UInt8}(h:kH l=true):1≤l.length∧l.length≤12:=by
 simp only[kH,aj,fV] at h;omega
theorem iQ{b:cX}(h:eO b=true):isVar b.gid∧b.name.length≤12∧isVar b.time∧isVar b.eP∧isVar b.next∧b.af.length≤10∧b.gone.length≤40∧(∀n∈b.gone,isVar n)∧∀m∈b.af,gp m=true:=by
 simp only[eO,aj,decide_eq_true_eq,da,en,fV] at h;obtain⟨⟨⟨⟨⟨⟨h1,h2⟩,h3⟩,h4⟩,h5⟩,h6⟩,h7⟩:=h;have hn:=jU h2;have hs:=qp h3;have hg:=kK h6;refine⟨⟨by omega,by omega⟩,hn.2,hs.1,hs.2,⟨by omega,by omega⟩,h5,by omega,fun n hn=>⟨by have:=hg.2 n hn;omega,by have:=hg.2 n hn;omega⟩,fun m hm=> ?_⟩;obtain⟨i,hi,e⟩:=cr hm;have:=h7 i hi;rw[iR hi,e] at this;simp at this;exact this.1.1.1.1
theorem wq:IntKind.i64.wrap 1=1:=wrap_i64 (by omega) (by omega)
abbrev BX:List T:=[I 0,.str ⟨#[]⟩,I 0,I 0,I 0,.bp 4,.bp 1]
structure tM where
 a:Nat
 b:Nat
 c:Nat
 d:Nat
theorem tM.ex{p:tM→Prop}:(∃x,p x)↔∃a b c d,p ⟨a,b,c,d⟩:=⟨fun⟨⟨a,b,c,d⟩,h⟩=>⟨a,b,c,d,h⟩,fun⟨a,b,c,d,h⟩=>⟨⟨a,b,c,d⟩,h⟩⟩
theorem dp.aE(h:dp.k M)(l:List jB)(hl:l.length≤1048576):run M 241 [.c (iS l)] []=some (.c (.sl true 3 (l.map cA)),[]):=by
 refine aq (b:=dp.m) h ⟨0, ?_⟩;have e:(l.map cA).length=l.length:=by simp
 have h1:l.length≤4294967296:=by omega
 simp only[iS];generalize l.map cA=r at*;simp (maxSteps:=9^9) [bB,dp.m,dp.b,ab,e,h1,aa]
theorem dK.aE(h:dK.k M)(m:fi)(hl:m.flags.length≤1048576):run M 238 [.a (aD m)] []=some (.a (oT m),[]):=by
 have h1:=dp.aE h.2 m.flags hl;refine aq (b:=dK.m) h.1 ⟨0, ?_⟩;have e:(m.flags.map cA).length=m.flags.length:=by simp
 simp only[aD,oT,iS] at*;generalize m.flags.map cA=r at*;simp (maxSteps:=9^9) [bB,dK.m,dK.b,ab,setAt,h1,e,aa]
theorem e_{β γ:Type}(n:Nat){f:St→Option (Out×St)}(S:Nat→β→St)(e:Nat)(E:γ→St)
  (h1:∀i,i<n→∀x,∃y,f (S i x)=some (.normal,S (i+1) y)) (h3:∀x,∃y,f (S n x)=some (.exit e,E y)):
  ∃g:β→γ,∀x,dP f (n+1) (S 0 x)=some (.exit e,E (g x)):=by
 refine hO (f:=f) S (fun i=>i≤n) (fun i=>n-i) (fun _=>()) (fun _ m=>(.exit e,E m)) ?_ (n+1) 0 (Nat.zero_le _) (by omega);intro i x hi;by_cases hlt:i<n
 ·left;obtain⟨y,hy⟩:=h1 i hlt x;exact⟨i+1,y,hy,hlt,by omega,rfl⟩
 ·have:i=n:=by omega
  subst this;right;obtain⟨y,hy⟩:=h3 x;exact⟨y,by simp[hy],by simp⟩
theorem mJ{α:Type}(l:List α)(i:Nat)(h:i<l.length):l.take (i+1)=l.take i++[l[i]]:=List.take_succ_eq_append_getElem h
def BJ(b:cX)(i:Nat)(x:tM×Nat):List (Nat×Ob):=[(1,⟨x.1.a,7,true,true,[ah b]⟩),(2,⟨x.1.b,7,true,true,[BX]⟩),(3,⟨x.2,7,true,true,[[I b.gid,S b.name,I b.time,I b.eP,I b.next,.row 6 x.1.c 0 i,ints b.gone]]⟩),(6,⟨x.1.c,4,true,false,(b.af.take i).map aD⟩)]
def B_(b:cX)(i:Nat)(x:tM×Nat):St:={t:=[(1,.c (.ptr 1 x.1.a 0 0)),(2,.c (.ptr 2 x.1.b 0 0)),(3,.c (.ptr 3 x.2 0 0)),(4,.c (I i))],o:=BJ b i x,n:=x.1.d}
def Cu(b:cX)(x:tM×Nat):St:={t:=[(1,.c (.ptr 1 x.1.a 0 0)),(2,.c (.ptr 2 x.1.b 0 0)),(3,.c (.ptr 3 x.2 0 0)),(4,.c (I b.af.length)),(12,.c (.bool false))],o:=BJ b b.af.length x,n:=x.1.d}
theorem bD.aE(h:bD.k M)(b:cX)(hb:ik b):run M 180 [.a (ah b)] []=some (.a (dR b),[]):=by
 obtain⟨h0,k2⟩:=h;have hm:=hb.m;have hg:=hb.g;refine aq (b:=bD.m) h0 ⟨b.af.length+1, ?_⟩;obtain⟨g,hr⟩:=e_ (f:=b9 (run M) (b.af.length+1) bD.l0) b.af.length (B_ b) 0 (Cu b)
  (fun i hi x=>by
   obtain⟨⟨v1,v2,v3,n⟩,v4⟩:=x;have h2:=dK.aE k2 b.af[i] (hb.f _ (ax hi));have e5:=dS (i:=i) (by omega);have e6:i+1≤4294967296:=by omega
   have e7:((b.af.take i).map aD).length=i:=by simp;omega
   have e8:((b.af.take (i+1)).map aD)=(b.af.take i).map aD++[aD b.af[i]]:=by rw[mJ _ _ hi,dG];rfl
   simp only[B_,BJ,e8,bP,tM.ex];generalize (b.af.take i).map aD=rr at*;simp only[aD,oT] at h2;simp (maxSteps:=9^9) [bD.l0,ab,setAt,hi,h2,e5,e6,e7,aD,aa];exact⟨_,_,_,_,_,⟨rfl,rfl,rfl⟩,⟨rfl,rfl,rfl,rfl⟩,rfl⟩)
  (fun x=>by
   obtain⟨⟨v1,v2,v3,n⟩,v4⟩:=x;simp only[bP,tM.ex];simp (maxSteps:=9^9) [bD.l0,ab,B_,Cu,BJ];exact⟨_,_,_,_,_,⟨rfl,rfl,rfl⟩,⟨rfl,rfl,rfl,rfl⟩,rfl⟩)
 have e7:(b.af.map aD).length=b.af.length:=by simp
 have e8:=bK b.gone;have e9:b.af.take b.af.length=b.af:=by simp
 have e6:b.gone.length≤4294967296:=by omega
 simp only[B_,Cu,BJ,e9,List.take_zero,bI,ints] at hr
 replace hr:=fun a b c d n=>hr ⟨⟨a,b,c,d⟩,n⟩
 simp only[ah,dR,af,ints] at hr ⊢;generalize b.af.map aD=rm at*;generalize au b.gone=rg at*;simp at hr;simp (maxSteps:=9^9) [bB,bD.m,bD.b,ab,setAt,hr,e6,e7,e8,aa]
def ky(n:Int)(i:Nat):Int:=n.fdiv ((2^i:Nat):Int)%2
def fQ(n t w:Int):List jB:=[⟨ky n 0,t,w⟩,⟨ky n 1,t,w⟩,⟨ky n 2,t,w⟩]
theorem rq(x:Int):(x.tmod 2=0)↔x%2=0:=
 ⟨fun h=>Int.emod_eq_zero_of_dvd (Int.dvd_of_tmod_eq_zero h),fun h=>Int.tmod_eq_zero_of_dvd (Int.dvd_of_emod_eq_zero h)⟩
theorem cW.aE(h:cW.k M)(n t w:Int):run M 181 [.c (I n),.a [I t,I w]] []=some (.c (.sl true 3 ((fQ n t w).map cA)),[]):=by
 refine aq (b:=cW.m) h ⟨4, ?_⟩;have w2:IntKind.i64.wrap 2=2:=wrap_i64 (by omega) (by omega);have w3:IntKind.i64.wrap 3=3:=wrap_i64 (by omega) (by omega);have u0:IntKind.u64.wrap 0=0:=by decide
 have u1:IntKind.u64.wrap 1=1:=by decide
 have u2:IntKind.u64.wrap 2=2:=by decide
 have key:∀i:Nat,ky n i=if(n.fdiv ((2^i:Nat):Int)).tmod 2=0 then 0 else 1:=by
  intro i;unfold ky;by_cases c:(n.fdiv ((2^i:Nat):Int)).tmod 2=0
  ·rw[if_pos c];exact(rq _).1 c
  ·rw[if_neg c];rw[rq] at c;omega
 have k0:=key 0;have k1:=key 1;have k2:=key 2;by_cases c0:(n.fdiv ((2^0:Nat):Int)).tmod 2=0<;>by_cases c1:(n.fdiv ((2^1:Nat):Int)).tmod 2=0<;>by_cases c2:(n.fdiv ((2^2:Nat):Int)).tmod 2=0<;>
  simp only[c0,c1,c2,if_true,if_false] at k0 k1 k2<;>simp at c0 c1 c2<;>
  simp (maxSteps:=9^9) [bB,cW.m,cW.b,ab,setAt,dP,cW.l0,wq,w2,w3,u0,u1,u2,fQ,cA,k0,k1,k2,c0,c1,c2,IntKind.bits]
def wy(l:List fi)(i:Nat):Int:=match l[i]? with|some m=>m.uid|none=>0
def rT(a b:cX)(g:Int):Bool:=match dY a.af g with
 |none=>false
 |some i=>match dY b.af g with
  |some k=>decide (wy a.af i=wy b.af k)
  |none=>decide (b.next≤wy a.af i)
end Mx
namespace Mx
open Go
def Aq{α:Type}(k:α→Int)(acc:List α)(m:α):List α:=acc.filter (fun x=>decide (k x≤k m))++[m]++acc.filter (fun x=>decide (k m<k x))
def kx(t w u x:Int):Bool:=decide (u<t)||(decide (t=u)&&decide (x<w))
def zi(a b:jB):jB:=if kx b.time b.eP a.time a.eP=true∨kx a.time a.eP b.time b.eP=false∧a.val<b.val then b else a
def vi(a b:List jB):List jB:=List.zipWith zi a b
def Cy(a b:List UInt8):List UInt8:=if gw a b=true then b else a
def xb(a b:fi):fi:=if a.gid=b.gid then⟨a.gid,Max.max a.uid b.uid,vi a.flags b.flags,Cy a.text b.text⟩ else a
def wZ(l:List fi)(g:Int):Option fi:=l.find? fun m=>decide (m.gid=g)
def jc(l:List fi):List Int:=l.map (·.gid)
def Ao(a b:List fi)(g:Int):fi:=match wZ a g,wZ b g with
 |some x,some y=>xb x y
 |some x,none=>x
 |none,some y=>y
 |none,none=>⟨0,0,[],[]⟩
def BN(a b:cX)(g:Int):Bool:=(holds a g&& !rT a b g)||(holds b g&& !rT b a g)
def BH(a b:cX)(s:List fi×Int)(g:Int):List fi×Int:=
 if g∈a.gone∨g∈b.gone then s else
 if BN a b g=true then(Aq (·.uid) s.1 {Ao a.af b.af g with uid:=s.2},s.2+1) else(Aq (·.uid) s.1 (Ao a.af b.af g),s.2)
def ud(a b:cX):List fi×Int:=(mh (jc a.af) (jc b.af)).foldl (BH a b) ([],Max.max a.next b.next)
def zj(a b:cX):cX:=if a.gid=b.gid then
    {gid:=a.gid,name:=if kx b.time b.eP a.time a.eP=true∨kx a.time a.eP b.time b.eP=false∧gw a.name b.name=true then b.name else a.name,
     time:=if kx b.time b.eP a.time a.eP=true∨kx a.time a.eP b.time b.eP=false∧gw a.name b.name=true then b.time else a.time,
     eP:=if kx b.time b.eP a.time a.eP=true∨kx a.time a.eP b.time b.eP=false∧gw a.name b.name=true then b.eP else a.eP,
     next:=(ud a b).2,af:=(ud a b).1,gone:=mh a.gone b.gone} else a
end Mx
namespace Mx
open Go
variable {M:Nat→Option Body}
theorem eb.aE(h:eb.k M)(t w u x:Int):run M 277 [.a [I t,I w],.a [I u,I x]] []=some (.c (.bool (kx t w u x)),[]):=by
 refine aq (b:=eb.m) h ⟨0, ?_⟩;unfold kx;by_cases c2:t=u
 ·subst c2;simp (maxSteps:=9^9) [bB,eb.m,eb.b,ab]
 ·simp (maxSteps:=9^9) [bB,eb.m,eb.b,ab,c2]
def sV(r:jB)(v t w:Int):jB:=if kx t w r.time r.eP=true∧lZ ⟨v,t,w⟩=true then⟨v,t,w⟩ else r
theorem dU.aE(h:dU.k M)(r:jB)(v t w:Int):run M 243 [.a (cA r),.c (I v),.a [I t,I w]] []=some (.a (cA (sV r v t w)),[]):=by
 obtain⟨h0,k1,k2⟩:=h;have h1:=dT.aE k1 ⟨v,t,w⟩;have h2:=eb.aE k2 t w r.time r.eP;refine aq (b:=dU.m) h0 ⟨0, ?_⟩;unfold sV;simp only[cA] at h1;generalize kx t w r.time r.eP=a at*;generalize lZ ⟨v,t,w⟩=b at*;cases a<;>cases b<;>simp (maxSteps:=9^9) [bB,dU.m,dU.b,ab,setAt,h1,h2,cA]
def kY(n t w:Int)(i:Nat)(r:jB):jB:=if r.val=ky n i then r else sV r (ky n i) t w
def iH(l:List jB)(n t w:Int):List jB:=if iA l=true∧iT 0 n 7=true then l.mapIdx (kY n t w) else l
def fH(l:List jB)(n t w:Int)(k:Nat):List jB:=l.mapIdx fun i r=>if i<k then kY n t w i r else r
theorem sT(l:List jB)(n t w:Int):fH l n t w 0=l:=by
 unfold fH;simp[List.mapIdx_eq_iff]
theorem uY(l:List jB)(n t w:Int):fH l n t w l.length=l.mapIdx (kY n t w):=by
 unfold fH;apply List.ext_getElem
 ·simp
 ·intro i h1 h2;simp at h1 ⊢;intro h;omega
theorem pL(l:List jB)(n t w:Int)(k:Nat):(fH l n t w k).length=l.length:=by simp[fH]
theorem wI(l:List jB)(n t w:Int)(k:Nat)(h:k<l.length):(fH l n t w k)[k]'(by simpa [fH] using h)=l[k]:=by simp[fH]
theorem sU(l:List jB)(n t w:Int)(k:Nat)(h:k<l.length):fH l n t w (k+1)=(fH l n t w k).set k (kY n t w k l[k]):=by
 unfold fH;apply List.ext_getElem
 ·simp
 ·intro i h1 h2;simp only[List.getElem_mapIdx,List.getElem_set];by_cases c:k=i
  ·subst c;simp
  ·rw[if_neg c];by_cases c2:i<k
   ·rw[if_pos c2,if_pos (by omega)]
   ·rw[if_neg c2,if_neg (by omega)]
end Mx
namespace Mx
open Go
theorem fc{σ:Type}{f:St→Option (Out×St)}(S:σ→St)(Inv:σ→Prop)(μ:σ→Nat)(Post:Out×St→Prop)
  (h:∀s,Inv s→(∃s',f (S s)=some (.normal,S s')∧Inv s'∧μ s'<μ s)∨(∃r,f (S s)=some r∧r.1≠.normal∧Post r)):
  ∀m s,Inv s→μ s<m→∃r,dP f m (S s)=some r∧Post r
 |0,s,_,hm=>by omega
 |m+1,s,hi,hm=>by
  rcases h s hi with⟨s',h1,h2,h3⟩|⟨⟨o,r⟩,h1,h2,h3⟩
  ·obtain⟨r,q1,q2⟩:=fc S Inv μ Post h m s' h2 (by omega);exact⟨r,by simp only[dP,h1];exact q1,q2⟩
  ·refine⟨(o,r), ?_,h3⟩;simp only[dP,h1];cases o with
   |normal=>exact(h2 rfl).elim
   |_=>rfl
end Mx
namespace Mx
open Go
variable {M:Nat→Option Body}
def rI{α:Type}(p:α→Bool)(l:List α)(i:Nat):Bool:=match l[i]? with|some m=>p m|none=>false
theorem gD{α:Type}(p:α→Bool)(l:List α)(i:Nat)(h:i<l.length):rI p l i=p l[i]:=by simp[rI,h]
def vH(f:Nat)(cs:List T)(l:List cX)(i:Nat)(x:Nat):St:={t:=[(0,.c (boxes l)),(1,.c (.fn f [.vp cs 0])),(7,.c (I l.length)),(8,.c (I i))],o:=[],n:=x}
theorem aF.gen(h:aF.k M){f:Nat}{cs:List T}{p:cX→Bool}(hf:∀m,run M f [.a (ah m),.c (.vp cs 0)] []=some (.c (.bool (p m)),[]))(l:List cX)(hl:l.length≤1048576):
  run M 200 [.c (boxes l),.c (.fn f [.vp cs 0])] []=some (.c (I (di (dn (rI p l) l.length))),[]):=by
 refine aq (b:=aF.m) h ⟨l.length+1, ?_⟩;obtain⟨g',hr⟩:=gV (f:=b9 (run M) (l.length+1) aF.l0) l.length (rI p l) (vH f cs l) eS jy
  (fun i hi x c=>by
   have hm:=hf l[i];rw[gD p l i hi] at c;rw[c] at hm;have e5:=dS (i:=i) (by omega);simp[vH,aF.l0,hi,hm,ah,e5])
  (fun i hi x c=>by
   have hm:=hf l[i];rw[gD p l i hi] at c;rw[c] at hm;simp[vH,aF.l0,hi,hm,ah,eS];exact⟨⟨[],[],_⟩,rfl⟩)
  (fun x=>by simp[vH,aF.l0,eS])
 cases hm:dn (rI p l) l.length with
 |none=>
  simp[vH,hm,eS] at hr;simp[bB,aF.m,aF.b,ab,hr,di]
 |some k=>
  simp[vH,hm,eS] at hr;simp[bB,aF.m,aF.b,ab,hr,di]
def zw(d:Nat):UInt8:=UInt8.ofNat (48+d)
def oY(m:Nat)(acc:List UInt8):List UInt8:=if m=0 then acc else oY (m/10) (zw (m%10)::acc)
termination_by m
decreasing_by omega
theorem lg(acc:List UInt8):oY 0 acc=acc:=by rw[oY];simp
theorem mZ{m:Nat}(h:m≠0)(acc:List UInt8):oY m acc=oY (m/10) (zw (m%10)::acc):=by rw[oY,if_neg h]
def dec(n:Int):List UInt8:=if n=0 then [48] else(if n<0 then [45] else [])++oY n.natAbs []
theorem oX:∀(k m:Nat) (acc:List UInt8),m<10^k→(oY m acc).length≤acc.length+k:=by
 intro k
 induction k with
 |zero=>intro m acc h;have:m=0:=by simpa using h
        subst this;rw[lg];omega
 |succ k ih=>
  intro m acc h;by_cases h0:m=0
  ·subst h0;rw[lg];omega
  ·rw[mZ h0];have:=ih (m/10) (zw (m%10)::acc) (by rw[Nat.pow_succ] at h;omega);simp at this;omega
theorem fX{n:Int}(h: -9223372036854775808≤n)(h':n≤9223372036854775807):(dec n).length≤21:=by
 unfold dec;have:=oX 20 n.natAbs [] (by omega);simp at this;split
 ·simp
 ·split<;>simp<;>omega
theorem dg.aE(h:dg.k M)(d:Nat)(hd:d<10):run M 247 [.c (I d)] []=some (.c (U8 (zw d).toNat),[]):=by
 refine aq (b:=dg.m) h ⟨0, ?_⟩;have e0:(d:Int)<10:=by omega
 have e1:IntKind.i64.wrap (48+(d:Int))=48+(d:Int):=wrap_i64 (by omega) (by omega);have e2:IntKind.u8.wrap (48+(d:Int))=((zw d).toNat:Int):=by
  unfold IntKind.wrap;simp[IntKind.bits,IntKind.signed,zw]<;>omega
 simp[bB,dg.m,dg.b,ab,e0,e1,e2]
def oj(b:Bool)(s:Int×List UInt8)(x:Nat):St:={t:=[(0,.c (I s.1)),(3,.c (.bool b)),(4,.c (S s.2))],o:=[],n:=x}
def m7(s:Int×List UInt8):Prop:= -9223372036854775808≤s.1∧s.1≤9223372036854775807∧∃k,s.1.natAbs<10^k∧s.2.length+k≤20
theorem nG{n:Int}{acc:List UInt8}(h:m7 (n,acc))(h0:n≠0)(b:UInt8):m7 (n.tdiv 10,b::acc):=by
 obtain⟨h1,h2,k,h3,h4⟩:=h;simp only at h1 h2 h3 h4;have e:(n.tdiv 10).natAbs=n.natAbs/10:=by rw[Int.natAbs_tdiv];rfl
 cases k with
 |zero=>simp at h3;omega
 |succ k=>exact⟨by simp only;omega,by simp only;omega,k,by simp only;rw[e];rw[Nat.pow_succ] at h3;omega,by simp;omega⟩
theorem lR(n:Int):n.tmod 10=(n.natAbs%10:Nat)∨(n.tmod 10<0∧n.tmod 10= - (n.natAbs%10:Nat)):=by
 have e:(n.tmod 10).natAbs=n.natAbs%10:=by rw[Int.natAbs_tmod];rfl
 omega
theorem a0.round(h:a0.k M)(k:Nat)(b:Bool)(s:Int×List UInt8)(x:Nat)(hi:m7 s)(h0:s.1≠0):
  ∃y,b9 (run M) k a0.l0 (oj b s x)=some (.normal,oj b (s.1.tdiv 10,zw (s.1.natAbs%10)::s.2) y):=by
 obtain⟨n,acc⟩:=s;obtain⟨h1,h2,k',h3,h4⟩:=hi;simp only at h0 h1 h2 h3 h4;have hf:=dg.aE h.2 (n.natAbs%10) (by omega);have ed:(n.tdiv 10).natAbs=n.natAbs/10:=by rw[Int.natAbs_tdiv];rfl
 have e1:IntKind.i64.wrap (n.tdiv 10)=n.tdiv 10:=wrap_i64 (by omega) (by omega);have e2:acc.length+1≤4611686018427387904:=by omega
 have e3:1+acc.length≤4611686018427387904:=by omega
 rcases lR n with ht|⟨ht0,ht⟩
 ·have e0:¬(((n.natAbs%10:Nat):Int)<0):=by omega
  generalize n.natAbs%10=d at*;simp only[oj,a0.l0];simp (disch:=(first|omega|(simp;done)|(simp;omega))) [h0,ht,hf,e1,e0,ak,fz]
 ·have e0:n.tmod 10<0:=ht0;have e4:IntKind.i64.wrap (0-n.tmod 10)=((n.natAbs%10:Nat):Int):=by rw[wrap_i64 (by omega) (by omega)];omega
  generalize n.natAbs%10=d at*;simp only[oj,a0.l0];simp only[Int.zero_sub] at e4;simp (disch:=(first|omega|(simp;done)|(simp;omega))) [h0,e0,e4,hf,e1,ak,fz]
theorem a0.aE(h:a0.k M)(n:Int)(hn: -9223372036854775808≤n)(hn':n≤9223372036854775807):run M 197 [.c (I n)] []=some (.c (S (dec n)),[]):=by
 refine aq (b:=a0.m) h.1 ⟨n.natAbs+1, ?_⟩;by_cases h0:n=0
 ·simp[bB,a0.m,a0.b,ab,h0,dec]
 obtain⟨g,hr⟩:=hO (f:=b9 (run M) (n.natAbs+1) a0.l0) (oj (decide (n<0))) m7 (fun s=>s.1.natAbs) (fun s=>oY s.1.natAbs s.2)
  (fun q m=>(.exit 0,{t:=[(0,.c (I 0)),(3,.c (.bool (decide (n<0)))),(4,.c (S q)),(11,.c (.bool false))],o:=[],n:=m}))
  (by
   intro s x hi;by_cases hs:s.1=0
   ·right;exact⟨x+32,by simp[oj,a0.l0,hs,lg],by simp⟩
   ·left;obtain⟨y,hy⟩:=a0.round h (n.natAbs+1) (decide (n<0)) s x hi hs;have e:(s.1.tdiv 10).natAbs=s.1.natAbs/10:=by rw[Int.natAbs_tdiv];rfl
    refine⟨_,y,hy,nG hi hs _,by simp only;omega, ?_⟩;simp only[e];exact(mZ (by omega) _).symm)
  (n.natAbs+1) (n,[]) ⟨hn,hn',20,by simp only;omega,by simp⟩ (by simp only;omega)
 have hl:=oX 20 n.natAbs [] (by omega);simp[oj] at hr hl;by_cases hneg:n<0
 ·simp[hneg] at hr;simp (disch:=(first|omega|(simp;done)|(simp;omega))) [bB,a0.m,a0.b,ab,h0,dec,hneg,hr,ak]
 ·simp[hneg] at hr;simp (disch:=(first|omega|(simp;done)|(simp;omega))) [bB,a0.m,a0.b,ab,h0,dec,hneg,hr]
def pX(n:Int)(s:Int×List UInt8)(x:Nat):St:={t:=[(0,.c (I n)),(3,.c (S s.2)),(4,.c (I s.1))],o:=[],n:=x}
theorem AX:∀d:Nat,d<10→∃h:d<16,([48,49,50,51,52,53,54,55,56,57,97,98,99,100,101,102]:List UInt8)[d]=zw d:=by decide
theorem bM.round(k:Nat)(n0:Int)(s:Int×List UInt8)(x:Nat)(hi:m7 s)(h0:s.1≠0):
  ∃y,b9 (run M) k bM.l0 (pX n0 s x)=some (.normal,pX n0 (s.1.tdiv 10,zw (s.1.natAbs%10)::s.2) y):=by
 obtain⟨n,acc⟩:=s;obtain⟨h1,h2,k',h3,h4⟩:=hi;simp only at h0 h1 h2 h3 h4;have ed:(n.tdiv 10).natAbs=n.natAbs/10:=by rw[Int.natAbs_tdiv];rfl
 have e1:IntKind.i64.wrap (n.tdiv 10)=n.tdiv 10:=wrap_i64 (by omega) (by omega);have e2:acc.length+1≤4611686018427387904:=by omega
 have e3:1+acc.length≤4611686018427387904:=by omega
 have hd:n.natAbs%10<10:=by omega
 have e5:IntKind.i64.wrap (((n.natAbs%10:Nat):Int)+1)=((n.natAbs%10+1:Nat):Int):=wrap_i64 (by omega) (by omega);have e4:IntKind.i64.wrap (-(n.tmod 10))= -(n.tmod 10):=wrap_i64 (by have:=lR n;omega) (by have:=lR n;omega);have e6:(if n.tmod 10< -(n.tmod 10) then -(n.tmod 10) else n.tmod 10)=((n.natAbs%10:Nat):Int):=by
  rcases lR n with ht|⟨ht0,ht⟩<;>split<;>omega
 generalize n.natAbs%10=d at*;obtain⟨hd16,hfig⟩:=AX d hd;have e7:=od ([48,49,50,51,52,53,54,55,56,57,97,98,99,100,101,102]:List UInt8) d hd16;rw[hfig] at e7;simp only[List.take_succ_cons] at e7;have e8:d+1≤16:=by omega
 have e9:(0:Int)≤(d:Int)+1:=by omega
 have e10:((d:Int)+1).toNat=d+1:=by omega
 simp only[pX,bM.l0];simp (disch:=(first|omega|(simp;done)|(simp;omega))) [h0,e4,e5,e6,e7,e8,e9,e10,e1,ak]
theorem bM.aE(h:bM.k M)(n:Int)(hn: -9223372036854775808≤n)(hn':n≤9223372036854775807):run M 128 [.c (I n)] []=some (.c (S (dec n)),[]):=by
 refine aq (b:=bM.m) h ⟨n.natAbs+1, ?_⟩;by_cases h0:n=0
 ·simp[bB,bM.m,bM.b,ab,h0,dec]
 obtain⟨g,hr⟩:=hO (f:=b9 (run M) (n.natAbs+1) bM.l0) (pX n) m7 (fun s=>s.1.natAbs) (fun s=>oY s.1.natAbs s.2)
  (fun q m=>(.exit 0,{t:=[(0,.c (I n)),(3,.c (S q)),(4,.c (I 0)),(10,.c (.bool false))],o:=[],n:=m}))
  (by
   intro s x hi;by_cases hs:s.1=0
   ·right;exact⟨x+32,by simp[pX,bM.l0,hs,lg],by simp⟩
   ·left;obtain⟨y,hy⟩:=bM.round (n.natAbs+1) n s x hi hs;have e:(s.1.tdiv 10).natAbs=s.1.natAbs/10:=by rw[Int.natAbs_tdiv];rfl
    refine⟨_,y,hy,nG hi hs _,by simp only;omega, ?_⟩;simp only[e];exact(mZ (by omega) _).symm)
  (n.natAbs+1) (n,[]) ⟨hn,hn',20,by simp only;omega,by simp⟩ (by simp only;omega)
 have hl:=oX 20 n.natAbs [] (by omega);simp[pX] at hr hl;by_cases hneg:n<0
 ·simp (disch:=(first|omega|(simp;done)|(simp;omega))) [bB,bM.m,bM.b,ab,h0,dec,hneg,hr,ak]
 ·simp (disch:=(first|omega|(simp;done)|(simp;omega))) [bB,bM.m,bM.b,ab,h0,dec,hneg,hr]
def pQ(s:List UInt8)(g:Int):List UInt8:=s.take 6++[120]++if 0<g then(dec g).drop ((dec g).length-5) else []
def gH(l:List cX)(g:Int):Option Nat:=dn (rI (fun b:cX=>decide (b.gid=g)) l) l.length
def qa(l:List cX)(g:Int):Option cX:=l.find? fun b=>decide (b.gid=g)
theorem eE{l:List cX}{g:Int}{k:Nat}(h:gH l g=some k):∃hk:k<l.length,qa l g=some l[k]:=by
 obtain⟨h1,h2,h3⟩:=hZ h;refine⟨h1, ?_⟩;unfold qa;rw[List.find?_eq_some_iff_getElem];rw[gD _ _ _ h1] at h2;refine⟨h2,k,h1,rfl,fun j hj=> ?_⟩;have:=h3 j hj;rw[gD _ _ _ (by omega)] at this;simp only[this,Bool.not_false]
abbrev ei(R:List (List T))(i:Nat)(h:Int):Nat×Ob:=(0,⟨0,3,true,true,[[.sl false 1 R,I i,I h]]⟩)
def Bytes(R:List (List T)):Prop:=R.length≤1048576∧∀(i:Nat) (r:List T),R[i]? =some r→∃n:Int,r=[.int .u8 n]
theorem uB(x:Int):∃n:Nat,n<256∧xO .i64 x 255=(n:Int):=by
 rw[zH];refine⟨(x%((2^IntKind.i64.bits:Nat):Int)).toNat&&&255, ?_, ?_⟩
 ·have:(x%((2^IntKind.i64.bits:Nat):Int)).toNat&&&255≤255:=Nat.and_le_right;omega
 ·have h:(x%((2^IntKind.i64.bits:Nat):Int)).toNat&&&255≤255:=Nat.and_le_right;have e:((255:Int)%((2^IntKind.i64.bits:Nat):Int)).toNat=255:=by decide
  rw[e];exact wrap_i64 (by omega) (by omega)
theorem cP.aE(h:cP.k M){R:List (List T)}(hR:Bytes R)(i:Nat)(q:Int)(hi:i≤R.length):
  ∃(x i':Nat) (q':Int),x<256∧i'≤R.length∧run M 131 [.c (.ptr 0 0 0 0)] [ei R i q]=some (.c (I x),[ei R i' q']):=by
 obtain⟨hl,hb⟩:=hR;obtain⟨q1,hq1⟩:∃q1,IntKind.i64.wrap (IntKind.i64.wrap (q*6364136223846793005)+1442695040888963407)=q1:=⟨_,rfl⟩
 obtain⟨x,hx,e1⟩:=uB (Bu .i64 (q1.fdiv ((2:Int)^min 33 IntKind.i64.bits)) (q1.fdiv ((2:Int)^min 45 IntKind.i64.bits)));by_cases hlt:i<R.length
 ·obtain⟨n,hn⟩:=hb i R[i] (cg hlt);obtain⟨y,hy,e2⟩:=uB (IntKind.i64.wrap (x+IntKind.i64.wrap n));refine⟨y,i+1,q1,hy,by omega, ?_⟩;refine aq (b:=cP.m) h ⟨0, ?_⟩;have e3:=dS (i:=i) (by omega);simp (maxSteps:=9^9) [bB,cP.m,cP.b,ab,setAt,hq1,e1,e2,e3,hlt,hn]
 ·refine⟨x,i,q1,hx,hi, ?_⟩;refine aq (b:=cP.m) h ⟨0, ?_⟩;simp (maxSteps:=9^9) [bB,cP.m,cP.b,ab,setAt,hq1,e1,hlt]
theorem oc(x n:Nat)(hn:0<n):∃y:Nat,y<n∧((x:Int).tmod (n:Int))=(y:Int):=⟨x%n,Nat.mod_lt _ hn,by rw[Int.tmod_eq_emod_of_nonneg (by omega)];rfl⟩
theorem a4.aE(h:a4.k M){R:List (List T)}(hR:Bytes R)(i:Nat)(q:Int)(hi:i≤R.length)(n:Nat)(hn:0<n)(hn2:n≤1000000000):
  ∃(x i':Nat) (q':Int),x<n∧i'≤R.length∧run M 125 [.c (.ptr 0 0 0 0),.c (I n)] [ei R i q]=some (.c (I x),[ei R i' q']):=by
 obtain⟨h0,k1⟩:=h;have n0:¬(n:Int)≤0:=by omega
 have n1:¬n=0:=by omega
 obtain⟨x1,i1,q1,hx1,hi1,h1⟩:=cP.aE k1 hR i q hi;by_cases hs:n≤256
 ·have hs2:(n:Int)≤256:=by omega
  obtain⟨y,hy,e⟩:=oc x1 n hn;refine⟨y,i1,q1,hy,hi1, ?_⟩;refine aq (b:=a4.m) h0 ⟨0, ?_⟩;simp (maxSteps:=9^9) [bB,a4.m,a4.b,ab,h1,n1,hs2,e]
 ·have hs2:¬(n:Int)≤256:=by omega
  obtain⟨x2,i2,q2,hx2,hi2,h2⟩:=cP.aE k1 hR i1 q1 hi1;obtain⟨x3,i3,q3,hx3,hi3,h3⟩:=cP.aE k1 hR i2 q2 hi2;obtain⟨x4,i4,q4,hx4,hi4,h4⟩:=cP.aE k1 hR i3 q3 hi3;have w1:IntKind.i64.wrap ((x1:Int)*16777216)=((x1*16777216:Nat):Int):=wrap_i64 (by omega) (by omega);have w2:IntKind.i64.wrap ((x2:Int)*65536)=((x2*65536:Nat):Int):=wrap_i64 (by omega) (by omega);have w3:IntKind.i64.wrap ((x3:Int)*256)=((x3*256:Nat):Int):=wrap_i64 (by omega) (by omega);obtain⟨y1,hy1⟩:∃y1,x1*16777216=y1:=⟨_,rfl⟩
  obtain⟨y2,hy2⟩:∃y2,x2*65536=y2:=⟨_,rfl⟩
  obtain⟨y3,hy3⟩:∃y3,x3*256=y3:=⟨_,rfl⟩
  rw[hy1] at w1;rw[hy2] at w2;rw[hy3] at w3;have w4:IntKind.i64.wrap ((y1:Int)+y2)=((y1+y2:Nat):Int):=wrap_i64 (by omega) (by omega);obtain⟨z1,hz1⟩:∃z1,y1+y2=z1:=⟨_,rfl⟩
  rw[hz1] at w4;have w5:IntKind.i64.wrap ((z1:Int)+y3)=((z1+y3:Nat):Int):=wrap_i64 (by omega) (by omega);obtain⟨z2,hz2⟩:∃z2,z1+y3=z2:=⟨_,rfl⟩
  rw[hz2] at w5;have w6:IntKind.i64.wrap ((z2:Int)+x4)=((z2+x4:Nat):Int):=wrap_i64 (by omega) (by omega);obtain⟨z3,hz3⟩:∃z3,z2+x4=z3:=⟨_,rfl⟩
  rw[hz3] at w6;obtain⟨y,hy,e⟩:=oc z3 n hn;refine⟨y,i4,q4,hy,hi4, ?_⟩;refine aq (b:=a4.m) h0 ⟨0, ?_⟩;simp (maxSteps:=9^9) [bB,a4.m,a4.b,ab,h1,h2,h3,h4,w1,w2,w3,w4,w5,w6,n1,hs2,e]
theorem cG.aE(h:cG.k M){R:List (List T)}(hR:Bytes R)(i:Nat)(q:Int)(hi:i≤R.length)(ss:List (List UInt8))(h0:0<ss.length)(hn:ss.length≤256):
  ∃(s:List UInt8) (i':Nat) (q':Int),s∈ss∧i'≤R.length∧run M 185 [.c (.ptr 0 0 0 0),.c (.sl false 1 (ss.map fun s=>[S s]))] [ei R i q]=some (.c (S s),[ei R i' q']):=by
 obtain⟨hm,k1⟩:=h;obtain⟨x,i1,q1,hx,hi1,h1⟩:=a4.aE k1 hR i q hi ss.length h0 (by omega);refine⟨ss[x],i1,q1,ax hx,hi1, ?_⟩;refine aq (b:=cG.m) hm ⟨0, ?_⟩;simp (maxSteps:=9^9) [bB,cG.m,cG.b,ab,h1,hx]
def sJ:List (List UInt8):=[[104,101,108,108,111],[104,105,10],[],[116,101,120,116,32,111,102,32,105,116],[0,255],[97,32,98]]
theorem dD.aE(h:dD.k M){R:List (List T)}(hR:Bytes R)(i:Nat)(q:Int)(hi:i≤R.length):
  ∃(s:List UInt8) (i':Nat) (q':Int),s.length≤60∧i'≤R.length∧run M 174 [.c (.ptr 0 0 0 0)] [ei R i q]=some (.c (S s),[ei R i' q']):=by
 obtain⟨hm,k1⟩:=h;obtain⟨s,i1,q1,hs,hi1,h1⟩:=cG.aE k1 hR i q hi sJ (by decide) (by decide);refine⟨s,i1,q1, ?_,hi1, ?_⟩
 ·have:∀s∈sJ,s.length≤60:=by decide
  exact this s hs
 ·refine aq (b:=dD.m) hm ⟨0, ?_⟩;simp only[sJ,aL,bI] at h1 ⊢;simp (maxSteps:=9^9) [bB,dD.m,dD.b,ab,h1]
def tv(R:List (List T))(i:Nat):Int:=match R[i]? with
 |some [.int _ n]=>IntKind.i64.wrap n
 |_=>0
def zp(R:List (List T)):Nat→Int
 |0=>77201+R.length
 |i+1=>xO .i64 (IntKind.i64.wrap (IntKind.i64.wrap (IntKind.i64.wrap (zp R i*131)+tv R i)+7)) 1073741823
def ub(R:List (List T)):Nat:=min R.length 4000
def Cg(R:List (List T))(i:Nat)(x:Nat):St:={t:=[(0,.c (.sl false 1 R)),(3,.c (I (zp R i))),(4,.c (I i))],o:=[],n:=x}
def CA(R:List (List T))(x:Nat):St:={t:=[(0,.c (.sl false 1 R)),(3,.c (I (zp R (ub R)))),(4,.c (I (ub R))),(15,.c (.bool false))],o:=[],n:=x}
theorem cV.aE(h:cV.k M){R:List (List T)}(hR:Bytes R):
  ∃q:Int,run M 124 [.c (.sl false 1 R)] []=some (.c (.vp [.sl false 1 R,I 0,I q] 0),[]):=by
 refine⟨zp R (ub R),aq (b:=cV.m) h ⟨ub R+1, ?_⟩⟩;have hl:=hR.1;obtain⟨g,hr⟩:=e_ (f:=b9 (run M) (ub R+1) cV.l0) (ub R) (Cg R) 0 (CA R)
  (fun i hi x=>by
   have h1:i<R.length:=by unfold ub at hi;omega
   have h2:i<4000:=by unfold ub at hi;omega
   have h3:(i:Int)<4000:=by omega
   obtain⟨n,hn⟩:=hR.2 i R[i] (cg h1);have hb:tv R i=IntKind.i64.wrap n:=by simp[tv,h1,hn]
   have e3:=dS (i:=i) (by omega);simp only[Cg,zp,hb];generalize zp R i=q;simp (maxSteps:=9^9) [cV.l0,h1,h3,hn,e3])
  (fun x=>by
   simp only[Cg,CA];generalize zp R (ub R)=q;by_cases c:R.length<4000
   ·have e:ub R=R.length:=by unfold ub;omega
    rw[e];simp (maxSteps:=9^9) [cV.l0]
   ·have e:ub R=4000:=by unfold ub;omega
    rw[e];simp only[cq];by_cases c2:4000<R.length
    ·have c3:(4000:Int)<(R.length:Int):=by omega
     simp (maxSteps:=9^9) [cV.l0,c3]
    ·have c3:¬(4000:Int)<(R.length:Int):=by omega
     simp (maxSteps:=9^9) [cV.l0,c3])
 simp only[Cg,CA,zp] at hr;generalize zp R (ub R)=q at*;simp at hr;have e:IntKind.i64.wrap (77201+(R.length:Int))=77201+(R.length:Int):=wrap_i64 (by omega) (by omega);simp (maxSteps:=9^9) [bB,cV.m,cV.b,ab,setAt,hr,e]
structure CS where
 i:Nat
 rows:List (List T)
 v:Nat
 vc:Nat
 ic:Nat
 q:Int
 n:Nat
theorem CS.ex{p:CS→Prop}:(∃s,p s)↔∃i rows v vc ic q n,p ⟨i,rows,v,vc,ic,q,n⟩:=⟨fun⟨⟨i,rows,v,vc,ic,q,n⟩,h⟩=>⟨i,rows,v,vc,ic,q,n,h⟩,fun⟨i,rows,v,vc,ic,q,n,h⟩=>⟨⟨i,rows,v,vc,ic,q,n⟩,h⟩⟩
def Ba(l:List jB)(n t w:Int)(i:Nat)(x:Nat×Nat×Nat):St:={t:=[(1,.c (I n)),(5,.c (.ptr 5 x.1 0 0)),(7,.c (.row 11100 x.2.1 0 l.length)),(8,.c (I i))],o:=[(5,⟨x.1,2,true,true,[[I t,I w]]⟩),(11100,⟨x.2.1,3,true,false,(fH l n t w i).map cA⟩)],n:=x.2.2}
def Cr(l:List jB)(n t w:Int)(x:Nat×Nat×Nat):St:={t:=[(1,.c (I n)),(5,.c (.ptr 5 x.1 0 0)),(7,.c (.row 11100 x.2.1 0 l.length)),(8,.c (I l.length)),(24,.c (.bool false))],o:=[(5,⟨x.1,2,true,true,[[I t,I w]]⟩),(11100,⟨x.2.1,3,true,false,(fH l n t w l.length).map cA⟩)],n:=x.2.2}
theorem bG.Cn(k:dU.k M)(l:List jB)(n t w:Int)(K i:Nat)(hn:0≤n)(hl:l.length=3)(hi:i<l.length)(x:Nat×Nat×Nat):
  ∃y,b9 (run M) K bG.l0 (Ba l n t w i x)=some (.normal,Ba l n t w (i+1) y):=by
 obtain⟨v,u,x⟩:=x;have e5:=dS (i:=i) (by omega);have h1:=dU.aE k l[i] (ky n i) t w;have hlen:((fH l n t w i).map cA).length=l.length:=by simp[pL]
 have hi2:i<((fH l n t w i).map cA).length:=by omega
 have hat:((fH l n t w i).map cA)[i]'hi2=cA l[i]:=by rw[List.getElem_map,wI]
 have hset:(fH l n t w (i+1)).map cA=((fH l n t w i).map cA).set i (cA (kY n t w i l[i])):=by rw[sU _ _ _ _ _ hi,iU]
 have hmin:Min.min i 64=i:=by omega
 have hu:IntKind.u64.wrap (i:Int)=i:=by unfold IntKind.wrap;simp[IntKind.bits,IntKind.signed];omega
 have hdiv:0≤n.fdiv ((2^i:Nat):Int):=Int.fdiv_nonneg hn (Int.natCast_nonneg _);have hbit:(n.fdiv ((2^i:Nat):Int)).tmod 2=ky n i:=by
  unfold ky;exact Int.tmod_eq_emod_of_nonneg hdiv
 have hbit2:(n.fdiv (2^i)).tmod 2=ky n i:=by rw[←hbit];norm_cast
 have hii:(i:Int)<3:=by omega
 have h3:i<3:=by omega
 have hng:¬(i:Int)<0:=by omega
 simp only[Ba,hset,kY,bP];generalize (fH l n t w i).map cA=rr at*;simp only[cA] at h1 hat;by_cases c:l[i].val=ky n i
 ·rw[if_pos c];have hself:rr.set i [I l[i].val,I l[i].time,I l[i].eP]=rr:=by
   apply List.ext_getElem?;intro j;rw[List.getElem?_set];split
   ·rename_i hj;subst hj;simp[hi2,hat]
   ·rfl
  rw[hself];simp (maxSteps:=9^9) [bG.l0,ab,hl,hlen,hat,e5,hu,hmin,hbit2,hii,h3,hng,c,IntKind.bits]
 ·rw[if_neg c];simp (maxSteps:=9^9) [bG.l0,ab,setAt,hl,hlen,hat,e5,hu,hmin,hbit2,hii,h3,hng,c,h1,cA,IntKind.bits]
theorem bG.aE(h:bG.k M)(l:List jB)(n t w:Int)(hl:l.length≤1048576):run M 184 [.c (iS l),.c (I n),.a [I t,I w]] []=some (.c (.sl true 3 ((iH l n t w).map cA)),[]):=by
 obtain⟨h0,k1,k3,k2,k4⟩:=h;have h1:=bh.iT k1 n 0 7;have h2:=bZ.aE k2 l hl;have h3:=dp.aE k3 l hl;refine aq (b:=bG.m) h0 ⟨4, ?_⟩;have e7:(l.map cA).length=l.length:=by simp
 have e8:(l.map cA).all (fun r=>r.all T.scalar)=true:=by simp[T.scalar]
 unfold iH;simp only[iS] at*;cases c1:iA l
 ·simp only[az,false_and,if_false];generalize l.map cA=r at*;simp (maxSteps:=9^9) [bB,bG.m,bG.b,ab,h2,h3,c1,e7,e8,aa]
 cases c2:iT 0 n 7
 ·simp only[az,and_false,if_false];generalize l.map cA=r at*;simp (maxSteps:=9^9) [bB,bG.m,bG.b,ab,h1,h2,h3,c1,c2,e7,e8,aa]
 have hl3:=(mr c1).1;obtain⟨g,hr⟩:=e_ (f:=b9 (run M) 4 bG.l0) l.length (Ba l n t w) 0 (Cr l n t w)
  (fun i hi x=>bG.Cn k4 l n t w 4 i (fV.1 c2).1 hl3 hi x)
  (fun x=>by
   obtain⟨v,u,x⟩:=x;simp only[Ba,Cr,bP];generalize (fH l n t w l.length).map cA=rr;simp (maxSteps:=9^9) [bG.l0,ab])
 have e9:((fH l n t w l.length).map cA).length=l.length:=by simp[pL]
 simp only[true_and,if_true];rw[←uY];simp only[Ba,Cr,sT] at hr;generalize (fH l n t w l.length).map cA=rr at*;generalize l.map cA=r at*;simp[hl3] at hr;simp (maxSteps:=9^9) [bB,bG.m,bG.b,ab,hr,h1,h2,h3,c1,c2,e7,e8,e9,hl3,aa]
def fg(b:cX)(g n t w:Int):cX×Bool:=match dY b.af g with
 |none=>(b,false)
 |some k=>match b.af[k]? with
  |none=>(b,false)
  |some m=>if eO b=true∧iT 0 n 7=true∧gB t w=true then({b with af:=b.af.set k {m with flags:=iH m.flags n t w}},true) else(b,false)
theorem rN{l:List fi}{g:Int}{k:Nat}(h:dY l g=some k):k<l.length:=xM l g _ _ _ h
theorem b_.aE(h:b_.k M)(b:cX)(hb:ik b)(g n t w:Int):run M 84 [.a (ah b),.c (I g),.c (I n),.a [I t,I w]] []=some (.hC [.a (dR (fg b g n t w).1),.c (.bool (fg b g n t w).2)],[]):=by
 obtain⟨h0,k2,k1,k3,k4,k5,k6⟩:=h;have h1:=aX.aE k1 b g hb.m;have h2:=aU.aE k2 b hb.ok.1 hb.ok.2.1 hb.ok.2.2.1 hb.ok.2.2.2;have h3:=bh.iT k3 n 0 7;have h4:=bD.aE k4 b hb;have h5:=de.aE k5 t w;refine aq (b:=b_.m) h0 ⟨0, ?_⟩;have e7:(b.af.map aD).length=b.af.length:=by simp
 have e8:=bK b.gone;unfold fg;cases hk:dY b.af g with
 |none=>
  rw[hk] at h1;simp only[di] at h1;simp only[ah,dR,af,ints] at*;generalize eO b=ok at*;generalize b.af.map aD=rm at*;generalize au b.gone=rg at*;cases ok<;>simp (maxSteps:=9^9) [bB,b_.m,b_.b,ab,setAt,h1,h2,h4,e7,e8,aa]
 |some k=>
  have hlt:=rN hk;rw[hk] at h1;simp only[di] at h1;have h6:=bG.aE k6 b.af[k].flags n t w (hb.f _ (ax hlt));have hat:(b.af.map aD)[k]'(by rw[e7];exact hlt)=[I b.af[k].gid,I b.af[k].uid,iS b.af[k].flags,S b.af[k].text]:=by rw[List.getElem_map]
  have hset:(b.af.set k {b.af[k] with flags:=iH b.af[k].flags n t w}).map aD=(b.af.map aD).set k [I b.af[k].gid,I b.af[k].uid,.sl false 3 ((iH b.af[k].flags n t w).map cA),S b.af[k].text]:=by rw[iU]
  have hng:¬(k:Int)<0:=by omega
  simp only[cg hlt];cases c1:eO b
  ·rw[c1] at h2;simp only[az,false_and,if_false];simp only[ah,dR,af,ints] at*;generalize b.af.map aD=rm at*;generalize au b.gone=rg at*;simp (maxSteps:=9^9) [bB,b_.m,b_.b,ab,setAt,h1,h2,h4,e7,e8,aa]
  rw[c1] at h2;cases c2:iT 0 n 7
  ·rw[c2] at h3;simp only[az,false_and,and_false,if_false];simp only[ah,dR,af,ints] at*;generalize b.af.map aD=rm at*;generalize au b.gone=rg at*;simp (maxSteps:=9^9) [bB,b_.m,b_.b,ab,setAt,h1,h2,h3,h4,e7,e8,hng,aa]
  rw[c2] at h3;cases c3:gB t w
  ·rw[c3] at h5;simp only[az,and_false,if_false];simp only[ah,dR,af,ints] at*;generalize b.af.map aD=rm at*;generalize au b.gone=rg at*;simp (maxSteps:=9^9) [bB,b_.m,b_.b,ab,setAt,h1,h2,h3,h4,h5,e7,e8,hng,aa]
  rw[c3] at h5;simp only[and_self,if_true];simp only[ah,dR,af,ints,hset] at*;generalize b.af.map aD=rm at*;generalize au b.gone=rg at*;simp (maxSteps:=9^9) [bB,b_.m,b_.b,ab,setAt,h1,h2,h3,h4,h5,h6,e7,e8,hng,hlt,hat,aa]
def fZ(b:cX)(g f:Int)(text:List UInt8)(t w:Int):cX×Bool:=
 if eO b=true∧dY b.af g=none∧¬g∈b.gone∧iT 0 f 7=true∧eO {b with af:=b.af++[⟨g,b.next,fQ f t w,text⟩],next:=b.next+1}=true
 then({b with af:=b.af++[⟨g,b.next,fQ f t w,text⟩],next:=b.next+1},true) else(b,false)
theorem cd.aE(h:cd.k M)(b:cX)(hb:ik b)(g f:Int)(text:List UInt8)(t w:Int):
  run M 81 [.a (ah b),.c (I g),.c (I f),.c (S text),.a [I t,I w]] []=some (.hC [.a (dR (fZ b g f text t w).1),.c (.bool (fZ b g f text t w).2)],[]):=by
 obtain⟨h0,k2,k1,k3,k5,k4,k6⟩:=h;have h1:=aX.aE k1 b g hb.m;have h2:=aU.aE k2 b hb.ok.1 hb.ok.2.1 hb.ok.2.2.1 hb.ok.2.2.2;have h3:=bh.iT k3 f 0 7;have h4:=bD.aE k4 b hb;have h5:=bC.aE k5 b.gone g (by have:=hb.g;omega);have h6:=cW.aE k6 f t w;refine aq (b:=cd.m) h0 ⟨0, ?_⟩;have e7:(b.af.map aD).length=b.af.length:=by simp
 have e8:=bK b.gone;unfold fZ;cases c1:eO b
 ·rw[c1] at h2;simp only[az,false_and,if_false];simp only[ah,dR,af,ints] at*;generalize b.af.map aD=rm at*;generalize au b.gone=rg at*;simp (maxSteps:=9^9) [bB,cd.m,cd.b,ab,setAt,h2,h4,e7,e8,aa]
 rw[c1] at h2;cases hk:dY b.af g with
 |some k=>
  have hge:(0:Int)≤k:=by omega
  rw[hk] at h1;simp only[di] at h1;simp only[reduceCtorEq,false_and,and_false,if_false];simp only[ah,dR,af,ints] at*;generalize b.af.map aD=rm at*;generalize au b.gone=rg at*;simp (maxSteps:=9^9) [bB,cd.m,cd.b,ab,setAt,h1,h2,h4,e7,e8,hge,aa]
 |none=>
 rw[hk] at h1;simp only[di] at h1;by_cases c2:g∈b.gone
 ·rw[decide_eq_true c2] at h5;simp only[c2,not_true_eq_false,false_and,and_false,if_false];simp only[ah,dR,af,ints] at*;generalize b.af.map aD=rm at*;generalize au b.gone=rg at*;simp (maxSteps:=9^9) [bB,cd.m,cd.b,ab,setAt,h1,h2,h4,h5,e7,e8,aa]
 rw[decide_eq_false c2] at h5;cases c3:iT 0 f 7
 ·rw[c3] at h3;simp only[az,false_and,and_false,if_false];simp only[ah,dR,af,ints] at*;generalize b.af.map aD=rm at*;generalize au b.gone=rg at*;simp (maxSteps:=9^9) [bB,cd.m,cd.b,ab,setAt,h1,h2,h3,h4,h5,e7,e8,aa]
 rw[c3] at h3;have hnx:b.next≤1000000000∧0≤b.next:=by
  have:=(iQ c1).2.2.2.2.1;exact⟨this.2,this.1⟩
 have hml:=(iQ c1).2.2.2.2.2.1;have e9:IntKind.i64.wrap (b.next+1)=b.next+1:=wrap_i64 (by omega) (by omega);have hout:ik {b with af:=b.af++[⟨g,b.next,fQ f t w,text⟩],next:=b.next+1}:=by
  refine⟨by simp;omega,hb.g,hb.n,fun m hm=> ?_⟩;rcases List.mem_append.1 hm with hm|hm
  ·exact hb.f m hm
  ·simp only[eA] at hm;subst hm;simp[fQ]
 have h7:=aU.aE k2 _ hout.ok.1 hout.ok.2.1 hout.ok.2.2.1 hout.ok.2.2.2;have e10:(b.af++[(⟨g,b.next,fQ f t w,text⟩:fi)]).map aD=b.af.map aD++[[I g,I b.next,.sl false 3 ((fQ f t w).map cA),S text]]:=by simp
 have e11:b.af.length+1≤4294967296:=by omega
 simp only[ah,af,e10] at h7;simp only[c2,not_false_eq_true,true_and];cases c4:eO {b with af:=b.af++[⟨g,b.next,fQ f t w,text⟩],next:=b.next+1}
 ·rw[c4] at h7;simp only[az,if_false];simp only[ah,dR,af,ints] at*;generalize (fQ f t w).map cA=rf at*;generalize b.af.map aD=rm at*;generalize au b.gone=rg at*;simp (maxSteps:=9^9) [bB,cd.m,cd.b,ab,setAt,h1,h2,h3,h4,h5,h6,h7,e7,e8,e9,e11,aa]
 ·rw[c4] at h7;simp only[if_true];simp only[ah,dR,af,ints,e10] at*;generalize (fQ f t w).map cA=rf at*;generalize b.af.map aD=rm at*;generalize au b.gone=rg at*;simp (maxSteps:=9^9) [bB,cd.m,cd.b,ab,setAt,h1,h2,h3,h4,h5,h6,h7,e7,e8,e9,e11,aa]
end Mx
namespace Mx
attribute [simp] mb
open Go
variable {M:Nat→Option Body}
end Mx
namespace Mx
open Go
variable {M:Nat→Option Body}
theorem tk{l:List Int}{most:Int}(h:gq l most=true):yu l:=by
 simp only[gq,aj,decide_eq_true_eq,da,en] at h;have hn:∀j (hj:j<l.length),∀i (hi:i<j),l[i]'(by omega)<l[j]:=by
  intro j
  induction j with
  |zero=>intro _ i hi;omega
  |succ j ih=>
   intro hj i hi;have:=h.1 (j+1) hj;rw[jv hj] at this;simp at this;by_cases e:i=j
   ·subst e;exact this.2
   ·exact Int.lt_trans (ih (by omega) i (by omega)) this.2
 exact List.pairwise_iff_getElem.2 fun i j hi hj hij=>hn j hj i hij
theorem tA{b:cX}(h:eO b=true):gq b.gone 40=true:=by
 simp only[eO,aj] at h;exact h.1.2
def fb(b:cX)(g:Int):cX×Bool:=match dY b.af g with
 |none=>(b,false)
 |some k=>if eO b=true∧b.gone.length<40 then({b with af:=b.af.take k++b.af.drop (k+1),gone:=jY b.gone g},true) else(b,false)
theorem bT.aE(h:bT.k M)(b:cX)(hb:ik b)(g:Int):run M 86 [.a (ah b),.c (I g)] []=some (.hC [.a (dR (fb b g).1),.c (.bool (fb b g).2)],[]):=by
 obtain⟨h0,k2,k1,k5,k3⟩:=h;have h1:=aX.aE k1 b g hb.m;have h2:=aU.aE k2 b hb.ok.1 hb.ok.2.1 hb.ok.2.2.1 hb.ok.2.2.2;have h4:=bD.aE k3 b hb;have h5:=bX.aE k5 b.gone g (by have:=hb.g;omega);refine aq (b:=bT.m) h0 ⟨0, ?_⟩;have e7:(b.af.map aD).length=b.af.length:=by simp
 have e8:=bK b.gone;unfold fb;cases hk:dY b.af g with
 |none=>
  rw[hk] at h1;simp only[di] at h1;simp only[ah,dR,af,ints] at*;generalize eO b=ok at*;generalize b.af.map aD=rm at*;generalize au b.gone=rg at*;cases ok<;>simp (maxSteps:=9^9) [bB,bT.m,bT.b,ab,setAt,h1,h2,h4,e7,e8,aa]
 |some k=>
  have hlt:=rN hk;rw[hk] at h1;simp only[di] at h1;have hng:¬(k:Int)<0:=by omega
  cases c1:eO b
  ·rw[c1] at h2;simp only[az,false_and,if_false];simp only[ah,dR,af,ints] at*;generalize b.af.map aD=rm at*;generalize au b.gone=rg at*;simp (maxSteps:=9^9) [bB,bT.m,bT.b,ab,setAt,h1,h2,h4,e7,e8,aa]
  rw[c1] at h2;have h40:=(iQ c1).2.2.2.2.2.2.1;have hml:=(iQ c1).2.2.2.2.2.1;by_cases c2:b.gone.length<40
  ·have n2:¬40≤b.gone.length:=by omega
   have n3:¬(40:Int)≤(b.gone.length:Int):=by omega
   simp only[c2,and_self,if_true];have e9:=dS (i:=k) (by omega);have e10:(b.af.take k++b.af.drop (k+1)).map aD=(b.af.map aD).take k++(b.af.map aD).drop (k+1):=by simp
   have e14:min k b.af.length=k:=by omega
   have e12:=bK (jY b.gone g);have e13:b.af.length≤min k b.af.length+(b.af.length-(k+1)+1)+1:=by omega
   simp only[ah,dR,af,ints,e10] at*;generalize b.af.map aD=rm at*;generalize au b.gone=rg at*;generalize au (jY b.gone g)=ru at*;have f1:k≤b.af.length:=by omega
   have f2:k+1≤b.af.length:=by omega
   have f3:(0:Int)≤k:=by omega
   have f4:(0:Int)≤(k:Int)+1:=by omega
   have f5:(k:Int)≤b.af.length:=by omega
   have f6:(k:Int)+1≤b.af.length:=by omega
   have f7:((k:Int)+1).toNat=k+1:=by omega
   have f8:rm.take b.af.length=rm:=aa (by omega);have f9:k≤4294967296:=by omega
   have f10:b.af.length≤4294967296:=by omega
   have f11:k+(b.af.length-(k+1))≤4294967296:=by omega
   have f13:IntKind.i64.wrap 1=1:=wrap_i64 (by omega) (by omega);have f14:b.af.length≤4294967297:=by omega
   have f12:rm.length-(k+1)≤4294967296:=by omega
   by_cases z:k=0
   ·subst z;by_cases y:b.af.length=1
    ·have y2:rm.drop 1=[]:=dQ (by omega);simp (maxSteps:=9^9) [bB,bT.m,bT.b,ab,setAt,h1,h2,h4,h5,e7,e8,e12,n3,f13,y,y2,aa]
    ·have y1:¬1=b.af.length:=by omega
     simp (maxSteps:=9^9) [bB,bT.m,bT.b,ab,setAt,h1,h2,h4,h5,e7,e8,e12,n3,f1,f2,f9,f13,f14,y1,aa]
   ·have z0:¬0=k:=by omega
    by_cases y:b.af.length=k+1
    ·have y2:rm.drop (k+1)=[]:=dQ (by omega);simp (maxSteps:=9^9) [bB,bT.m,bT.b,ab,setAt,h1,h2,h4,h5,e7,e8,e9,e12,hng,n3,f3,f4,f7,f9,z,z0,y,y2,aa]
    ·have y1:¬k+1=b.af.length:=by omega
     simp (maxSteps:=9^9) [bB,bT.m,bT.b,ab,setAt,h1,h2,h4,h5,e7,e8,e9,e12,e14,hng,n3,f1,f2,f3,f4,f7,f9,f11,z,z0,y1,aa]
  ·have n2:40≤b.gone.length:=by omega
   have n3:(40:Int)≤(b.gone.length:Int):=by omega
   simp only[c2,and_false,if_false];simp only[ah,dR,af,ints] at*;generalize b.af.map aD=rm at*;generalize au b.gone=rg at*;simp (maxSteps:=9^9) [bB,bT.m,bT.b,ab,setAt,h1,h2,h4,e7,e8,n3,hng,aa]
end Mx
namespace Mx
open Go
theorem sj(l:List fi)(g:Int):∀d i k,tC l g d i=some k→i≤k∧∃h:k<l.length,(l[k]).gid=g∧∀j,i≤j→(hj:j<k)→(l[j]'(by omega)).gid≠g
 |0,i,k,h=>by simp[tC] at h
 |d+1,i,k,h=>by
  simp only[tC] at h;split at h
  ·rename_i hi;split at h
   ·rename_i e;cases h;exact⟨Nat.le_refl _,hi,e,fun j h1 h2=>by omega⟩
   ·rename_i e;obtain⟨h1,h2,h3,h4⟩:=sj l g d (i+1) k h;refine⟨by omega,h2,h3,fun j hj hk=> ?_⟩;by_cases q:j=i
    ·subst q;exact e
    ·exact h4 j (by omega) hk
  ·cases h
theorem sk(l:List fi)(g:Int):∀d i,tC l g d i=none→∀j,i≤j→j<i+d→(hj:j<l.length)→(l[j]).gid≠g
 |0,i,h,j,h1,h2,hj=>by omega
 |d+1,i,h,j,h1,h2,hj=>by
  simp only[tC] at h;rw[dif_pos (by omega)] at h;split at h
  ·cases h
  ·rename_i e;by_cases q:j=i
   ·subst q;exact e
   ·exact sk l g d (i+1) h j (by omega) (by omega) hj
theorem fM{l:List fi}{g:Int}{k:Nat}(h:dY l g=some k):∃h:k<l.length,(l[k]).gid=g∧∀j,(hj:j<k)→(l[j]'(by omega)).gid≠g:=by
 obtain⟨_,h1,h2,h3⟩:=sj l g _ _ _ h;exact⟨h1,h2,fun j hj=>h3 j (Nat.zero_le _) hj⟩
theorem oA{l:List fi}{g:Int}:dY l g=none↔∀m∈l,m.gid≠g:=by
 constructor
 ·intro h m hm;obtain⟨j,hj,rfl⟩:=cr hm;exact sk l g _ _ h j (Nat.zero_le _) (by omega) hj
 ·intro h;cases q:dY l g with
  |none=>rfl
  |some k=>
   obtain⟨h1,h2,_⟩:=fM q;exact(h _ (ax h1) h2).elim
theorem wY{l:List fi}{k:Nat}(hk:k<l.length)(h:∀j,(hj:j<k)→(l[j]'(by omega)).gid≠(l[k]).gid):dY l (l[k]).gid=some k:=by
 cases q:dY l (l[k]).gid with
 |none=>exact(oA.1 q _ (ax hk) rfl).elim
 |some k'=>
  obtain⟨h1,h2,h3⟩:=fM q;rcases Nat.lt_trichotomy k' k with c|c|c
  ·exact(h k' c h2).elim
  ·rw[c]
  ·exact(h3 k c rfl).elim
structure Good (b:cX):Prop where
 gid:1≤b.gid∧b.gid≤9999
 name:kH b.name=true
 st:gB b.time b.eP=true
 next:1≤b.next∧b.next≤10000
 len:b.af.length≤10
 gone:yu b.gone
 pY:∀g∈b.gone,1≤g∧g≤9999
 oK:b.gone.length≤40
 pz:∀m∈b.af,gp m=true∧m.uid<b.next∧¬m.gid∈b.gone
 Bz:b.af.Pairwise (fun a c=>a.uid<c.uid)
 jc:b.af.Pairwise (fun a c=>a.gid≠c.gid)
theorem oi{l:List Int}(h:∀j (hj:j+1<l.length),l[j]<l[j+1]):yu l:=by
 have hn:∀j (hj:j<l.length),∀i (hi:i<j),l[i]'(by omega)<l[j]:=by
  intro j
  induction j with
  |zero=>intro _ i hi;omega
  |succ j ih=>
   intro hj i hi;by_cases e:i=j
   ·subst e;exact h i hj
   ·exact Int.lt_trans (ih (by omega) i (by omega)) (h j hj)
 exact List.pairwise_iff_getElem.2 fun i j hi hj hij=>hn j hj i hij
theorem iN{l:List Int}{most:Int}:gq l most=true↔yu l∧(∀g∈l,1≤g∧g≤9999)∧(l.length:Int)≤most:=by
 constructor
 ·intro h;exact⟨tk h,(kK h).2,(kK h).1⟩
 ·rintro ⟨h1,h2,h3⟩;simp only[gq,aj,decide_eq_true_eq,da,en];refine⟨fun j hj=> ?_,h3⟩;rw[jv hj];have q1:=h2 _ (ax hj);simp only[dM,Bool.not_eq_eq_eq_not,Bool.not_false,Bool.and_eq_false_imp,decide_eq_true_eq,decide_eq_false_iff_not];refine⟨fV.2 q1,fun h0=> ?_⟩;have:=List.pairwise_iff_getElem.1 h1 (j-1) j (by omega) hj (by omega);omega
theorem ju{b:cX}:eO b=true↔Good b:=by
 constructor
 ·intro h;have hv:=iQ h;have hg:=iN.1 (tA h);simp only[eO,aj,decide_eq_true_eq,da,en] at h;obtain⟨⟨⟨⟨⟨⟨h1,h2⟩,h3⟩,h4⟩,h5⟩,h6⟩,h7⟩:=h;have key:∀i (hi:i<b.af.length),gp b.af[i]=true∧b.af[i].uid<b.next∧(0<i→b.af[i-1].uid<b.af[i].uid)∧dY b.af b.af[i].gid=some i∧¬b.af[i].gid∈b.gone:=by
   intro i hi;have:=h7 i hi;rw[iR hi] at this;simp only[dM,Bool.not_eq_eq_eq_not,Bool.not_false,Bool.and_eq_false_imp,decide_eq_true_eq,decide_eq_false_iff_not] at this;obtain⟨⟨⟨⟨q1,q2⟩,q3⟩,q4⟩,q5⟩:=this;refine⟨q1,by omega,fun h0=>by have:=q3 h0;omega, ?_,q5⟩;cases e:dY b.af b.af[i].gid with
   |none=>rw[e] at q4;simp only[di] at q4;omega
   |some k=>rw[e] at q4;simp only[di] at q4;rw[show k=i by omega]
  refine⟨fV.1 h1,h2,h3,fV.1 h4,h5,hg.1,hg.2.1,by omega,fun m hm=> ?_, ?_, ?_⟩
  ·obtain⟨j,hj,rfl⟩:=cr hm;have:=key j hj;exact⟨this.1,this.2.1,this.2.2.2.2⟩
  ·have ha:yu (b.af.map (·.uid)):=oi fun j hj=>by
    simp only[fC] at hj;have:=(key (j+1) hj).2.2.1 (by omega);simpa using this
   exact List.pairwise_map.1 ha
  ·refine List.pairwise_iff_getElem.2 fun i j hi hj hij e=> ?_
   obtain⟨_,_,h3⟩:=fM (key j hj).2.2.2.1;exact h3 i hij e
 ·intro h;simp only[eO,aj,decide_eq_true_eq,da,en];refine⟨⟨⟨⟨⟨⟨fV.2 h.gid,h.name⟩,h.st⟩,fV.2 h.next⟩,h.len⟩,iN.2 ⟨h.gone,h.pY,by have:=h.oK;omega⟩⟩,fun i hi=> ?_⟩;rw[iR hi];obtain⟨q1,q2,q3⟩:=h.pz _ (ax hi);simp only[dM,Bool.not_eq_eq_eq_not,Bool.not_false,Bool.and_eq_false_imp,decide_eq_true_eq,decide_eq_false_iff_not];refine⟨⟨⟨⟨q1,by omega⟩,fun h0=> ?_⟩, ?_⟩,q3⟩
  ·have:=List.pairwise_iff_getElem.1 h.Bz (i-1) i (by omega) hi (by omega);omega
  ·rw[wY hi fun j hj=>List.pairwise_iff_getElem.1 h.jc j i (by omega) hi hj];rfl
structure yq (i:Nat) (b:cX):Prop where
 mn:Good b
 m:∀m∈b.af,10≤m.gid∧m.gid≤18
 g:∀g∈b.gone,10≤g∧g≤18
 nx:b.next≤4+i
 gl:b.gone.length≤i
theorem yq.mono{i j:Nat}{b:cX}(h:yq i b)(hij:i≤j):yq j b:=⟨h.mn,h.m,h.g,by have:=h.nx;omega,by have:=h.gl;omega⟩
theorem Good.wk{b:cX}(h:Good b):ik b:=
 ⟨by have:=h.len;omega,by have:=h.oK;omega,by have:=(jU h.name).2;omega,fun m hm=>by have:=(hJ (h.pz m hm).1).2.2.1;omega⟩
theorem xi(l:List Int)(x:Int):(jY l x).length≤l.length+1:=by
 have h:∀l:List Int,(l.filter (fun y=>decide (y<x))).length+(l.filter (fun y=>decide (x<y))).length≤l.length:=by
  intro l
  induction l with
  |nil=>simp
  |cons a l ih=>
   simp only[jA];by_cases c1:a<x
   ·have c2:¬x<a:=by omega
    simp[c1,c2];omega
   ·by_cases c2:x<a
    ·simp[c1,c2];omega
    ·simp[c1,c2];omega
 have:=h l;simp only[jY,aN,d_];omega
theorem ga{α:Type}(l:List α)(k:Nat):(l.take k++l.drop (k+1)).Sublist l:=by
 have e:l=l.take k++l.drop k:=(dE k l).symm;have h1:(l.drop (k+1)).Sublist (l.drop k):=by rw[←List.drop_drop];exact List.drop_sublist 1 _
 have h2:=List.Sublist.append (List.Sublist.refl (l.take k)) h1;rw[←e] at h2;exact h2
theorem vn{b:cX}(h:Good b){k:Nat}(hk:k<b.af.length)(h40:b.gone.length<40):
  Good {b with af:=b.af.take k++b.af.drop (k+1),gone:=jY b.gone (b.af[k]).gid}:=by
 have hs:=ga b.af k;have hq:=h.pz _ (ax hk);have hv:=(hJ hq.1).1;have hgid:1≤(b.af[k]).gid∧(b.af[k]).gid≤9999:=by
  have:=hq.1;simp only[gp,aj] at this;exact fV.1 this.1.1.1
 refine⟨h.gid,h.name,h.st,h.next,by have:=hs.length_le;have:=h.len;simp only;omega,r5 h.gone,fun g hg=> ?_,by have:=xi b.gone (b.af[k]).gid;simp only;omega,fun m hm=> ?_,h.Bz.sublist hs,h.jc.sublist hs⟩
 ·rcases jr.1 hg with q|q
  ·rw[q];exact hgid
  ·exact h.pY g q
 ·have hm':=h.pz m (hs.subset hm);refine⟨hm'.1,hm'.2.1,fun c=> ?_⟩;rcases jr.1 c with q|q
  ·rcases List.mem_append.1 hm with z|z
   ·obtain⟨j,hj,rfl⟩:=cr z;rw[List.getElem_take] at q;have hjk:j<k:=by simp at hj;omega
    exact List.pairwise_iff_getElem.1 h.jc j k (by omega) hk hjk q
   ·obtain⟨j,hj,rfl⟩:=cr z;rw[List.getElem_drop] at q;exact List.pairwise_iff_getElem.1 h.jc k (k+1+j) hk (by simp at hj;omega) (by omega) q.symm
  ·exact hm'.2.2 q
end Mx
namespace Mx
open Go
variable {M:Nat→Option Body}
theorem dc.aE(h:dc.k M){R:List (List T)}(hR:Bytes R)(i:Nat)(q:Int)(hi:i≤R.length)(n:Nat)(h0:0<n)(hn:n≤256):
  ∃(s:Bool) (i':Nat) (q':Int),i'≤R.length∧run M 175 [.c (.ptr 0 0 0 0),.c (I n)] [ei R i q]=some (.c (.bool s),[ei R i' q']):=by
 obtain⟨hm,k1⟩:=h;obtain⟨x,i1,q1,hx,hi1,h1⟩:=a4.aE k1 hR i q hi n h0 (by omega);refine⟨decide (x=0),i1,q1,hi1, ?_⟩;refine aq (b:=dc.m) hm ⟨0, ?_⟩;simp (maxSteps:=9^9) [bB,dc.m,dc.b,ab,h1]
theorem Good.flags{b:cX}(h:Good b):∀m∈b.af,m.flags.length≤4:=fun m hm=>by have:=(hJ (h.pz m hm).1).2.2.1;omega
end Mx
namespace Mx
open Go
theorem Good.nd{b:cX}(h:Good b):(Mx.jc b.af).Nodup:=List.pairwise_map.2 h.jc
end Mx
namespace Mx
open Go
variable {M:Nat→Option Body}
theorem ug(l:List Int)(x:Int):(jY l x).length≤l.length+1:=by
 have h:∀l:List Int,(l.filter (fun y=>decide (y<x))).length+(l.filter (fun y=>decide (x<y))).length≤l.length:=by
  intro l
  induction l with
  |nil=>simp
  |cons a l ih=>
   simp only[jA];by_cases c1:a<x
   ·have c2:¬x<a:=by omega
    simp[c1,c2];omega
   ·by_cases c2:x<a
    ·simp[c1,c2];omega
    ·simp[c1,c2];omega
 have:=h l;simp only[jY,aN,d_];omega
deriving instance DecidableEq for jB
deriving instance DecidableEq for fi
deriving instance DecidableEq for cX
def yX(l:List Int)(i:Nat)(x:Nat):St:={t:=[(0,.c (ints l)),(1,.c (ints l)),(5,.c (I i))],o:=[],n:=x}
def AP(l:List Int)(x:Nat):St:={t:=[(0,.c (ints l)),(1,.c (ints l)),(5,.c (I l.length)),(14,.c (.bool false))],o:=[],n:=x}
theorem cH.self(h:cH.k M)(l:List Int)(hl:l.length≤1048576):run M 158 [.c (ints l),.c (ints l)] []=some (.c (.bool true),[]):=by
 refine aq (b:=cH.m) h ⟨l.length+1, ?_⟩;obtain⟨g,hr⟩:=e_ (f:=b9 (run M) (l.length+1) cH.l0) l.length (yX l) 0 (AP l)
  (fun i hi x=>by
   have e3:=dS (i:=i) (by omega);have e8:=bK l;have e9:(au l)[i]'(by rw[e8];exact hi)=[I l[i]]:=by simp[au]
   simp only[yX,ints];generalize au l=r at*;simp (maxSteps:=9^9) [cH.l0,ab,hi,e3,e8,e9])
  (fun x=>by
   have e8:=bK l;simp only[yX,AP,ints];generalize au l=r at*;simp (maxSteps:=9^9) [cH.l0,ab,e8])
 have e8:=bK l;simp only[yX,AP,ints] at hr ⊢;generalize au l=r at*;simp at hr;simp (maxSteps:=9^9) [bB,cH.m,cH.b,ab,hr,e8]
theorem eW.aE(h:eW.k M)(R:List (List T))(hl:R.length≤9223372036854775807):run M 36 [.c (.sl false 1 R)] []=some (.c (.bool (decide (1048576<R.length))),[]):=by
 refine aq (b:=eW.m) h ⟨0, ?_⟩;simp (maxSteps:=9^9) [bB,eW.m,eW.b,ab];omega
def iX(acc:List cX)(x:cX):List cX:=acc++[if(acc.any fun y=>decide (y.name=x.name))=true then {x with name:=pQ x.name x.gid} else x]
def BK(l:List cX):List cX:=l.foldl iX []
structure B6 (l:List cX):Prop where
 len:l.length≤5
 mn:∀b∈l,Good b
def qz(acc:List cX)(x:cX):cX:=if(acc.any fun y=>decide (y.name=x.name))=true then {x with name:=pQ x.name x.gid} else x
theorem lE(acc:List cX)(x:cX):iX acc x=acc++[qz acc x]:=rfl
theorem lY:∀(l acc:List cX),(l.foldl iX acc).length=acc.length+l.length
 |[],acc=>by simp
 |x::l,acc=>by
  rw[dW,lY l,lE];simp;omega
theorem lX(l:List cX):(BK l).length=l.length:=by unfold BK;rw[lY];simp
theorem o5{l:List cX}{g:Int}{b:cX}(h:qa l g=some b):b∈l∧b.gid=g:=⟨List.mem_of_find?_eq_some h,by simpa using List.find?_some h⟩
def uh(l:List cX):List Int:=l.map (·.gid)
def Ap(a b:List cX)(g:Int):cX:=match qa a g,qa b g with
 |some x,some y=>zj x y
 |some x,none=>x
 |none,some y=>y
 |none,none=>⟨0,[],0,0,0,[],[]⟩
def gT(a b:List cX)(G:List Int):List cX:=BK (((mh (uh a) (uh b)).filter fun g=> !decide (g∈G)).map (Ap a b))
def oq(L:List cX)(i:Nat):List Int:=(L.take i).flatMap fun b=>jc b.af
def oZ(L:List cX)(i:Nat)(x:cX):cX:={x with af:=x.af.filter fun m=> !decide (m.gid∈oq L i)}
def zE(L:List cX):List cX:=L.mapIdx fun i x=>oZ L i x
abbrev pG:List T:=[I 0,I 0,.bp 7,.bp 1]
structure Small (x:cX):Prop where
 m:x.af.length≤20
 g:x.gone.length≤80
 n:x.name.length≤12
 f:∀m∈x.af,m.flags.length≤1048576
 d:(jc x.af).Nodup
theorem Good.small{b:cX}(h:Good b):Small b:=⟨by have:=h.len;omega,by have:=h.oK;omega,(jU h.name).2,h.wk.f,h.nd⟩
structure v_ (s:aP):Prop where
 boxes:B6 s.boxes
 gone:s.gone.length≤20
 Bp:s.boxes.Pairwise fun x y=>x.gid<y.gid
theorem fk{s:aP}(h:aW s=true):v_ s:=by
 simp only[aW,aj,decide_eq_true_eq,da,en] at h;obtain⟨⟨⟨⟨_,_⟩,h3⟩,h4⟩,h5⟩:=h;have hg:=(iN.1 h4).2.2;have hbad:∀i (hi:i<s.boxes.length),eO s.boxes[i]=true∧∀(q:0<i),(s.boxes[i-1]'(by omega)).gid<s.boxes[i].gid:=fun i hi=>by
  have:=h5 i hi;rw[jw hi,lj hi] at this;simp at this;exact⟨this.1.1.1.1.1,this.1.1.1.1.2⟩
 refine⟨⟨h3,fun b hb=> ?_⟩,by omega, ?_⟩
 ·obtain⟨i,hi,rfl⟩:=cr hb;exact ju.1 (hbad i hi).1
 ·have hA:yu (s.boxes.map (·.gid)):=oi fun j hj=>by
   simp only[fC] at hj;have:=(hbad (j+1) hj).2 (by omega);simpa using this
  exact List.pairwise_map.1 hA
def Be(s:aP)(g:Int)(i:Nat)(x:Nat):St:={t:=[(1,.c (I g)),(2,.c (.ptr 2 2000000 0 0)),(5,.c (I i))],o:=[(2,⟨2000000,4,true,true,[ao s]⟩)],n:=x}
theorem bJ.aE(h:bJ.k M)(s:aP)(g:Int)(hl:s.boxes.length≤1048576):run M 196 [.a (ao s),.c (I g)] []=some (.c (I (di (gH s.boxes g))),[]):=by
 refine aq (b:=bJ.m) h ⟨s.boxes.length+1, ?_⟩;have er:(s.boxes.map ah).length=s.boxes.length:=by simp
 obtain⟨g',hr⟩:=gV (f:=b9 (run M) (s.boxes.length+1) bJ.l0) s.boxes.length (rI (fun b:cX=>decide (b.gid=g)) s.boxes) (Be s g) eS jy
  (fun i hi x c=>by
   rw[gD _ _ _ hi] at c;simp only[decide_eq_false_iff_not] at c;have e5:=dS (i:=i) (by omega);have a1:∀hh,(s.boxes.map ah)[i]'hh=ah s.boxes[i]:=by intro hh;simp
   simp only[Be,ao,boxes,ints];simp only[ah] at a1;generalize s.boxes.map ah=rb at*;simp (maxSteps:=9^9) [bJ.l0,hi,c,e5,er,a1])
  (fun i hi x c=>by
   rw[gD _ _ _ hi] at c;simp only[decide_eq_true_eq] at c;have a1:∀hh,(s.boxes.map ah)[i]'hh=ah s.boxes[i]:=by intro hh;simp
   simp only[Be,ao,boxes,ints];simp only[ah] at a1;generalize s.boxes.map ah=rb at*;simp (maxSteps:=9^9) [bJ.l0,hi,c,er,a1,eS];exact⟨⟨[],[],_⟩,rfl⟩)
  (fun x=>by
   simp only[Be,ao,boxes,ints];generalize s.boxes.map ah=rb at*;simp (maxSteps:=9^9) [bJ.l0,er,eS])
 unfold gH;cases hm:dn (rI (fun b:cX=>decide (b.gid=g)) s.boxes) s.boxes.length with
 |none=>
  simp[Be,hm,eS] at hr;simp only[ao,boxes,ints] at*;simp (maxSteps:=9^9) [bB,bJ.m,bJ.b,ab,hr,di]
 |some k=>
  simp[Be,hm,eS] at hr;simp only[ao,boxes,ints] at*;simp (maxSteps:=9^9) [bB,bJ.m,bJ.b,ab,hr,di]
theorem ca.aE(h:ca.k M)(s:aP)(hs: -1000000000≤s.time∧s.time≤1000000000):run M 301 [.a (ao s)] []=some (.a [I (s.time+1),I s.eP],[]):=by
 refine aq (b:=ca.m) h ⟨0, ?_⟩;have e5:IntKind.i64.wrap (s.time+1)=s.time+1:=wrap_i64 (by omega) (by omega);simp only[ao,boxes,ints];simp (maxSteps:=9^9) [bB,ca.m,ca.b,ab,setAt,e5]
def BM(s:aP)(i v:Nat):List (Nat×Ob):=[(1,⟨2000000,4,true,true,[ao s]⟩),(2,⟨2000016,4,true,true,[pG]⟩),(3,⟨2000048,4,true,true,[[I s.eP,I s.time,.row 6 v 0 i,ints s.gone]]⟩),(6,⟨v,7,true,false,(s.boxes.take i).map ah⟩)]
def Cb(s:aP)(i:Nat)(x:Nat×Nat):St:={t:=[(1,.c (.ptr 1 2000000 0 0)),(2,.c (.ptr 2 2000016 0 0)),(3,.c (.ptr 3 2000048 0 0)),(4,.c (I i))],o:=BM s i x.1,n:=x.2}
def Cw(s:aP)(x:Nat×Nat):St:={t:=[(1,.c (.ptr 1 2000000 0 0)),(2,.c (.ptr 2 2000016 0 0)),(3,.c (.ptr 3 2000048 0 0)),(4,.c (I s.boxes.length)),(12,.c (.bool false))],o:=BM s s.boxes.length x.1,n:=x.2}
theorem bz.aE(h:bz.k M)(s:aP)(hs:gh s):run M 219 [.a (ao s)] []=some (.a (bm s),[]):=by
 obtain⟨h0,k1⟩:=h;have hbl:=hs.b;have hgl:=hs.g;refine aq (b:=bz.m) h0 ⟨s.boxes.length+1, ?_⟩;have er:(s.boxes.map ah).length=s.boxes.length:=by simp
 obtain⟨g,hr⟩:=e_ (f:=b9 (run M) (s.boxes.length+1) bz.l0) s.boxes.length (Cb s) 0 (Cw s)
  (fun i hi x=>by
   obtain⟨v,n⟩:=x;have h2:=bD.aE k1 s.boxes[i] (hs.i _ (ax hi));have e5:=dS (i:=i) (by omega);have e6:i+1≤4294967296:=by omega
   have e7:((s.boxes.take i).map ah).length=i:=by simp;omega
   have e8:((s.boxes.take (i+1)).map ah)=(s.boxes.take i).map ah++[ah s.boxes[i]]:=by rw[mJ _ _ hi,dG];rfl
   have a1:∀hh,(s.boxes.map ah)[i]'hh=ah s.boxes[i]:=by intro hh;simp
   simp only[bP,Cb,BM,e8,ao,boxes,ints];simp only[ah,dR,af,ints] at h2 a1 ⊢;generalize (s.boxes.take i).map ah=rr at*;generalize s.boxes.map ah=rb at*;generalize s.boxes[i].af.map aD=rm at*;generalize au s.boxes[i].gone=rg at*;generalize au s.gone=rs at*;simp (maxSteps:=9^9) [bz.l0,ab,setAt,hi,h2,e5,e6,e7,er,a1,aa])
  (fun x=>by
   obtain⟨v,n⟩:=x;simp only[bP,Cb,Cw,BM,ao,boxes,ints];generalize (s.boxes.take s.boxes.length).map ah=rr at*;generalize s.boxes.map ah=rb at*;generalize au s.gone=rs at*;simp (maxSteps:=9^9) [bz.l0,ab,er])
 have hr0:=hr (2000080,2000144);generalize g (2000080,2000144)=y at*;obtain⟨v,n⟩:=y;have ez:((0:Nat):Int)=0:=rfl;have eg:=bK s.gone;have e9:s.gone.length≤4294967296:=by omega
 simp only[Cb,Cw,BM,ez,List.take_zero,bI,List.take_length,ao,boxes,ints] at hr0;simp only[ao,bm,boxes,ints];generalize s.boxes.map ah=rb at*;generalize au s.gone=rs at*;simp (maxSteps:=9^9) [bB,bz.m,bz.b,ab,setAt,hr0,er,eg,e9,aa]
def mT(b:cX)(g:Int):Bool:=(dY b.af g).isSome||decide (g∈b.gone)
def pV(s:aP)(g:Int):Bool:=(gH s.boxes g).isSome||decide (g∈s.gone)||s.boxes.any fun b=>mT b g
def Bd(s:aP)(g:Int)(i:Nat)(x:Nat):St:={t:=[(1,.c (I g)),(2,.c (.ptr 2 2000000 0 0)),(5,.c (I i))],o:=[(2,⟨2000000,4,true,true,[ao s]⟩)],n:=x}
def Cv(s:aP)(g:Int)(x:Nat):St:={t:=[(1,.c (I g)),(2,.c (.ptr 2 2000000 0 0)),(5,.c (I s.boxes.length)),(20,.c (.bool false))],o:=[(2,⟨2000000,4,true,true,[ao s]⟩)],n:=x}
theorem tF(p:cX→Bool)(l:List cX):l.any p=(dn (rI p l) l.length).isSome:=by
 cases q:dn (rI p l) l.length with
 |none=>
  have hn:=i_ q;have:l.any p=false:=by
   rw[List.any_eq_false];intro b hb;obtain⟨j,hj,rfl⟩:=cr hb;have:=hn j hj;rw[gD _ _ _ hj] at this;simp[this]
  rw[this];rfl
 |some k=>
  obtain⟨h1,h2,_⟩:=hZ q;rw[gD _ _ _ h1] at h2;have:l.any p=true:=List.any_eq_true.2 ⟨_,ax h1,h2⟩;rw[this];rfl
theorem hQ(q:Option Nat):decide ((0:Int)≤di q)=q.isSome:=by
 cases q with
 |none=>rfl
 |some k=>exact decide_eq_true (Int.natCast_nonneg k)
theorem cw.aE(h:cw.k M)(s:aP)(g:Int)(hs:gh s):run M 300 [.a (ao s),.c (I g)] []=some (.c (.bool (pV s g)),[]):=by
 obtain⟨h0,ka,ki,kb⟩:=h;have hbl:=hs.b;have hgl:=hs.g;have h1:=bJ.aE kb s g hbl;have h2:=bC.aE ki s.gone g (by omega);refine aq (b:=cw.m) h0 ⟨s.boxes.length+1, ?_⟩;have er:(s.boxes.map ah).length=s.boxes.length:=by simp
 obtain⟨g',hr⟩:=eZ (f:=b9 (run M) (s.boxes.length+1) cw.l0) s.boxes.length (rI (fun b=>mT b g) s.boxes) (Bd s g) 4 (.bool true) 0 (Cv s g)
  (fun i hi x c=>by
   rw[gD _ _ _ hi] at c;have hb:=hs.i _ (ax hi);have h3:=aX.aE ka s.boxes[i] g hb.m;have h4:=bC.aE ki s.boxes[i].gone g (by have:=hb.g;omega);have e5:=dS (i:=i) (by omega);have a1:∀hh,(s.boxes.map ah)[i]'hh=ah s.boxes[i]:=by intro hh;simp
   unfold mT at c;simp only[dM] at c;obtain⟨c1,c2⟩:=c;rw[c2] at h4;have c3:¬(0:Int)≤di (dY s.boxes[i].af g):=by
    have:=hQ (dY s.boxes[i].af g);rw[c1] at this;simpa using this
   simp only[Bd,ao,boxes,ints];simp only[ah,af,ints] at h3 h4 a1;generalize di (dY s.boxes[i].af g)=z at*;generalize s.boxes.map ah=rb at*;generalize s.boxes[i].af.map aD=rm at*;generalize au s.boxes[i].gone=rg at*;simp (maxSteps:=9^9) [cw.l0,hi,h3,h4,c3,e5,er,a1,aa])
  (fun i hi x c=>by
   rw[gD _ _ _ hi] at c;have hb:=hs.i _ (ax hi);have h3:=aX.aE ka s.boxes[i] g hb.m;have h4:=bC.aE ki s.boxes[i].gone g (by have:=hb.g;omega);have a1:∀hh,(s.boxes.map ah)[i]'hh=ah s.boxes[i]:=by intro hh;simp
   unfold mT at c;have c3:=hQ (dY s.boxes[i].af g);simp only[Bd,ao,boxes,ints];simp only[ah,af,ints] at h3 h4 a1;generalize di (dY s.boxes[i].af g)=z at*;generalize (dY s.boxes[i].af g).isSome=w at*;generalize decide (g∈s.boxes[i].gone)=w2 at*;generalize s.boxes.map ah=rb at*;generalize s.boxes[i].af.map aD=rm at*;generalize au s.boxes[i].gone=rg at*;cases w
   ·simp only[decide_eq_false_iff_not] at c3;simp only[Bool.false_or] at c;subst c;simp (maxSteps:=9^9) [cw.l0,hi,h3,h4,c3,er,a1,aa]
   ·simp only[decide_eq_true_eq] at c3;simp (maxSteps:=9^9) [cw.l0,hi,h3,c3,er,a1,aa])
  (fun x=>by
   simp only[Bd,Cv,ao,boxes,ints];generalize s.boxes.map ah=rb at*;simp (maxSteps:=9^9) [cw.l0,er])
 have hany:=tF (fun b=>mT b g) s.boxes;have c0:=hQ (gH s.boxes g);unfold pV;rw[hany];generalize (gH s.boxes g).isSome=w1 at*;generalize di (gH s.boxes g)=z at*;generalize decide (g∈s.gone)=w2 at*;have ez:((0:Nat):Int)=0:=rfl;cases w1
 ·simp only[decide_eq_false_iff_not] at c0;cases w2
  ·cases hq:dn (rI (fun b=>mT b g) s.boxes) s.boxes.length with
   |none=>
    simp only[Bd,Cv,hq,ib,ez] at hr;simp only[ao,boxes,ints] at*;simp (maxSteps:=9^9) [bB,cw.m,cw.b,ab,h1,h2,c0,hr,aa]
   |some q=>
    simp only[Bd,hq,ib,ez] at hr;simp only[ao,boxes,ints] at*;simp (maxSteps:=9^9) [bB,cw.m,cw.b,ab,h1,h2,c0,hr,aa]
  ·simp only[ao,boxes,ints] at*;simp (maxSteps:=9^9) [bB,cw.m,cw.b,ab,h1,h2,c0,aa]
 ·simp only[decide_eq_true_eq] at c0;simp only[ao,boxes,ints] at*;simp (maxSteps:=9^9) [bB,cw.m,cw.b,ab,h1,c0,aa]
theorem tH{b:cX}(hb:ik b)(g f:Int)(x:List UInt8)(t w:Int):ik (fZ b g f x t w).1:=by
 unfold fZ;split
 ·rename_i c;exact(ju.1 c.2.2.2.2).wk
 ·exact hb
theorem r7{b:cX}(hb:ik b)(g n t w:Int):ik (fg b g n t w).1:=by
 unfold fg;split
 ·exact hb
 ·split
  ·exact hb
  ·rename_i k hk m hm;split
   ·refine⟨by simpa using hb.m,hb.g,hb.n,fun m' hm'=> ?_⟩;obtain⟨j,hj,rfl⟩:=cr hm';simp only[List.getElem_set];split
    ·have e:(iH m.flags n t w).length=m.flags.length:=by unfold iH;split<;>simp
     simp only[e];exact hb.f m (cT hm)
    ·exact hb.f _ (ax _)
   ·exact hb
def dN(s:aP)(i:Nat)(b:cX):aP:={s with boxes:=s.boxes.set i b,time:=s.time+1}
def stamped(s:aP)(i:Nat)(b:cX):aP×Bool:=if aW (dN s i b)=true then(dN s i b,true) else(s,false)
structure kT (s:aP):Prop where
 mi:gh s
 time: -1000000000≤s.time∧s.time≤1000000000
theorem lU{s:aP}(hs:gh s){i:Nat}(hi:i<s.boxes.length){b:cX}(hb:ik b)(hm:(s.boxes.flatMap aI).length+b.af.length≤1048576):gh (dN s i b):=by
 refine⟨by simpa [dN] using hs.b,hs.g,fun x hx=> ?_, ?_⟩
 ·rcases List.mem_or_eq_of_mem_set hx with q|q
  ·exact hs.i x q
  ·rw[q];exact hb
 ·have e:s.boxes.set i b=s.boxes.take i++b::s.boxes.drop (i+1):=List.set_eq_take_append_cons_drop.trans (by rw[if_pos hi]);simp only[dN];rw[e];have hsub:((s.boxes.take i).flatMap aI).length+((s.boxes.drop (i+1)).flatMap aI).length≤(s.boxes.flatMap aI).length:=by
   conv=>rhs;rw[←dE i s.boxes,cB hi]
   simp only[List.flatMap_append,ct,aN];omega
  simp only[List.flatMap_append,ct,aN,aI,fC] at hsub hm ⊢;omega
theorem ch.aE(h:ch.k M)(s:aP)(hs:kT s)(i:Nat)(hi:i<s.boxes.length)(b:cX)(hb:ik b)(hm:(s.boxes.flatMap aI).length+b.af.length≤1048576):
  run M 302 [.a (ao s),.c (I i),.a (ah b)] []=some (.hC [.a (bm (stamped s i b).1),.c (.bool (stamped s i b).2)],[]):=by
 obtain⟨h0,ko,kc⟩:=h;have ht:=hs.time;have h1:=bz.aE kc s hs.mi;have h2:=aC.aE ko (dN s i b) (lU hs.mi hi hb hm);refine aq (b:=ch.m) h0 ⟨0, ?_⟩;have e5:IntKind.i64.wrap (s.time+1)=s.time+1:=wrap_i64 (by omega) (by omega);have er:(s.boxes.map ah).length=s.boxes.length:=by simp
 have eg:=bK s.gone;have es:(dN s i b).boxes.map ah=(s.boxes.map ah).set i (ah b):=by simp only[dN,iU]
 have ew:(dN s i b).eP=s.eP:=rfl;have et:(dN s i b).time=s.time+1:=rfl;have egn:(dN s i b).gone=s.gone:=rfl;have a1:∀hh,(s.boxes.map ah)[i]'hh=ah s.boxes[i]:=by intro hh;simp
 unfold stamped;cases c:aW (dN s i b) with
 |true=>
  rw[c] at h2;rw[if_pos rfl];simp only[ao,bm,boxes,ints,es,ew,et,egn] at h1 h2 ⊢;clear es c;simp only[ah,af,ints] at h2 a1 ⊢;generalize s.boxes.map ah=rb at*;generalize au s.gone=rs at*;generalize s.boxes[i].af.map aD=r1 at*;generalize au s.boxes[i].gone=r2 at*;generalize b.af.map aD=r3 at*;generalize au b.gone=r4 at*;simp (maxSteps:=9^9) [bB,ch.m,ch.b,ab,setAt,hi,h1,h2,e5,er,eg,a1,aa]
 |false=>
  rw[c] at h2;rw[if_neg (by decide)];simp only[ao,bm,boxes,ints,es,ew,et,egn] at h1 h2 ⊢;clear es c;simp only[ah,af,ints] at h2 a1 ⊢;generalize s.boxes.map ah=rb at*;generalize au s.gone=rs at*;generalize s.boxes[i].af.map aD=r1 at*;generalize au s.boxes[i].gone=r2 at*;generalize b.af.map aD=r3 at*;generalize au b.gone=r4 at*;simp (maxSteps:=9^9) [bB,ch.m,ch.b,ab,setAt,hi,h1,h2,e5,er,eg,a1,aa]
def at_(s:aP)(g:Int)(f:Nat→cX→aP×Bool):aP×Bool:=match gH s.boxes g with
 |none=>(s,false)
 |some i=>match s.boxes[i]? with
  |none=>(s,false)
  |some b=>f i b
theorem g_{s:aP}{g:Int}{f:Nat→cX→aP×Bool}(h:gH s.boxes g=none):at_ s g f=(s,false):=by simp only[at_,h]
theorem gZ{s:aP}{g:Int}{f:Nat→cX→aP×Bool}{i:Nat}(h:gH s.boxes g=some i)(hi:i<s.boxes.length):at_ s g f=f i s.boxes[i]:=by simp only[at_,h,cg hi]
def jO(s:aP)(g m f:Int)(x:List UInt8):aP×Bool:=if aW s=true∧pV s m=false then at_ s g fun i b=>if(fZ b m f x (s.time+1) s.eP).2=true then stamped s i (fZ b m f x (s.time+1) s.eP).1 else(s,false) else(s,false)
def iL(s:aP)(g m f:Int):aP×Bool:=if aW s=true then at_ s g fun i b=>if(fg b m f (s.time+1) s.eP).2=true then stamped s i (fg b m f (s.time+1) s.eP).1 else(s,false) else(s,false)
def iP(s:aP)(g m:Int):aP×Bool:=if aW s=true then at_ s g fun i b=>if(fb b m).2=true then({s with boxes:=s.boxes.set i (fb b m).1},true) else(s,false) else(s,false)
theorem ld{s:aP}(h:aW s=true):(s.boxes.flatMap aI).length≤50:=by
 have G:=(fk h).boxes;have key:∀l:List cX,(∀x∈l,x.af.length≤10)→(l.flatMap aI).length≤10*l.length:=by
  intro l
  induction l with
  |nil=>intro _;simp
  |cons x l ih=>
   intro h;have h1:=ih fun y hy=>h y (df _ hy)
   have h2:=h x (dB ..);simp only[ct,aN,aI,fC,ae] at h1 ⊢;omega
 have:=key s.boxes fun x hx=>(G.mn x hx).len
 have:=G.len;omega
theorem pC{b:cX}(hb:Good b)(g f:Int)(x:List UInt8)(t w:Int):(fZ b g f x t w).1.af.length≤11:=by
 unfold fZ;split
 ·rename_i c;exact Nat.le_trans (ju.1 c.2.2.2.2).len (by omega)
 ·have:=hb.len;simp only;omega
theorem oN{b:cX}(hb:Good b)(g n t w:Int):(fg b g n t w).1.af.length≤11:=by
 have:=hb.len;unfold fg;split
 ·simp only;omega
 ·split
  ·simp only;omega
  ·split
   ·simp only[List.length_set];omega
   ·simp only;omega
theorem cv.aE(h:cv.k M)(s:aP)(hs:kT s)(g m f:Int)(x:List UInt8):
  run M 279 [.a (ao s),.c (I g),.c (I m),.c (I f),.c (S x)] []=some (.hC [.a (bm (jO s g m f x).1),.c (.bool (jO s g m f x).2)],[]):=by
 obtain⟨h0,ka,ko,kb,kc,kk,kn,kst⟩:=h;have h1:=bJ.aE kb s g hs.mi.b;have h2:=aC.aE ko s hs.mi;have h3:=cw.aE kk s m hs.mi;have h4:=bz.aE kc s hs.mi;have h5:=ca.aE kn s hs.time;have er:(s.boxes.map ah).length=s.boxes.length:=by simp
 have eg:=bK s.gone;refine aq (b:=cv.m) h0 ⟨0, ?_⟩;unfold jO;cases c1:aW s with
 |false=>
  rw[c1] at h2;simp only[az,false_and,if_false];simp only[ao,bm,boxes,ints] at*;generalize s.boxes.map ah=rb at*;generalize au s.gone=rs at*;simp (maxSteps:=9^9) [bB,cv.m,cv.b,ab,setAt,h1,h2,h4,er,eg,aa]
 |true=>
  rw[c1] at h2;cases c2:pV s m with
  |true=>
   rw[c2] at h3;simp only[Bool.true_eq_false,and_false,if_false];simp only[ao,bm,boxes,ints] at*;generalize s.boxes.map ah=rb at*;generalize au s.gone=rs at*;simp (maxSteps:=9^9) [bB,cv.m,cv.b,ab,setAt,h1,h2,h3,h4,er,eg,aa]
  |false=>
   rw[c2] at h3;rw[if_pos ⟨rfl,rfl⟩];cases c3:gH s.boxes g with
   |none=>
    rw[c3] at h1;rw[g_ c3];simp only[ao,bm,boxes,ints,di] at*;generalize s.boxes.map ah=rb at*;generalize au s.gone=rs at*;simp (maxSteps:=9^9) [bB,cv.m,cv.b,ab,setAt,h1,h2,h3,h4,er,eg,aa]
   |some i=>
    rw[c3] at h1;obtain⟨hi,_⟩:=eE c3;rw[gZ c3 hi];have hG:=(fk c1).boxes.mn _ (ax hi);have h6:=cd.aE ka s.boxes[i] hG.wk m f x (s.time+1) s.eP;have hin:=tH hG.wk m f x (s.time+1) s.eP;have h7:=ch.aE kst s hs i hi (fZ s.boxes[i] m f x (s.time+1) s.eP).1 hin (by have:=ld c1;have:=pC hG m f x (s.time+1) s.eP;omega);have a1:∀hh,(s.boxes.map ah)[i]'hh=ah s.boxes[i]:=by intro hh;simp
    have ni:¬(i:Int)<0:=by omega
    generalize fZ s.boxes[i] m f x (s.time+1) s.eP=A at*;obtain⟨b',ok⟩:=A;generalize stamped s i b'=B at*;obtain⟨s',ok'⟩:=B;have er2:(s'.boxes.map ah).length=s'.boxes.length:=by simp
    have eg2:=bK s'.gone;simp only[ao,bm,boxes,ints,di] at h1 h2 h3 h4 h5 h7 ⊢;simp only[ah,dR,af,ints] at h6 h7 a1;generalize hrb:s.boxes.map ah=rb at*;generalize hrs:au s.gone=rs at*;generalize s.boxes[i].af.map aD=r1 at*;generalize au s.boxes[i].gone=r2 at*;generalize b'.af.map aD=r3 at*;generalize au b'.gone=r4 at*;cases ok
    ·simp only[az,if_false];simp (maxSteps:=9^9) [bB,cv.m,cv.b,ab,setAt,hi,ni,h1,h2,h3,h4,h5,h6,er,eg,a1,aa];exact⟨hrb.symm,hrs.symm⟩
    ·simp only[if_true];generalize s'.boxes.map ah=rb' at*;generalize au s'.gone=rs' at*;simp (maxSteps:=9^9) [bB,cv.m,cv.b,ab,setAt,hi,ni,h1,h2,h3,h5,h6,h7,er,er2,eg2,a1,aa]
theorem cm.aE(h:cm.k M)(s:aP)(hs:kT s)(g m f:Int):
  run M 280 [.a (ao s),.c (I g),.c (I m),.c (I f)] []=some (.hC [.a (bm (iL s g m f).1),.c (.bool (iL s g m f).2)],[]):=by
 obtain⟨h0,ka,ko,kb,kc,kn,kst⟩:=h;have h1:=bJ.aE kb s g hs.mi.b;have h2:=aC.aE ko s hs.mi;have h4:=bz.aE kc s hs.mi;have h5:=ca.aE kn s hs.time;have er:(s.boxes.map ah).length=s.boxes.length:=by simp
 have eg:=bK s.gone;refine aq (b:=cm.m) h0 ⟨0, ?_⟩;unfold iL;cases c1:aW s with
 |false=>
  rw[c1] at h2;simp only[az,if_false];simp only[ao,bm,boxes,ints] at*;generalize s.boxes.map ah=rb at*;generalize au s.gone=rs at*;simp (maxSteps:=9^9) [bB,cm.m,cm.b,ab,setAt,h1,h2,h4,er,eg,aa]
 |true=>
  rw[c1] at h2;rw[if_pos rfl];cases c3:gH s.boxes g with
  |none=>
   rw[c3] at h1;rw[g_ c3];simp only[ao,bm,boxes,ints,di] at*;generalize s.boxes.map ah=rb at*;generalize au s.gone=rs at*;simp (maxSteps:=9^9) [bB,cm.m,cm.b,ab,setAt,h1,h2,h4,er,eg,aa]
  |some i=>
   rw[c3] at h1;obtain⟨hi,_⟩:=eE c3;rw[gZ c3 hi];have hG:=(fk c1).boxes.mn _ (ax hi);have h6:=b_.aE ka s.boxes[i] hG.wk m f (s.time+1) s.eP;have hin:=r7 hG.wk m f (s.time+1) s.eP;have h7:=ch.aE kst s hs i hi (fg s.boxes[i] m f (s.time+1) s.eP).1 hin (by have:=ld c1;have:=oN hG m f (s.time+1) s.eP;omega);have a1:∀hh,(s.boxes.map ah)[i]'hh=ah s.boxes[i]:=by intro hh;simp
   have ni:¬(i:Int)<0:=by omega
   generalize fg s.boxes[i] m f (s.time+1) s.eP=A at*;obtain⟨b',ok⟩:=A;generalize stamped s i b'=B at*;obtain⟨s',ok'⟩:=B;have er2:(s'.boxes.map ah).length=s'.boxes.length:=by simp
   have eg2:=bK s'.gone;simp only[ao,bm,boxes,ints,di] at h1 h2 h4 h5 h7 ⊢;simp only[ah,dR,af,ints] at h6 h7 a1;generalize hrb:s.boxes.map ah=rb at*;generalize hrs:au s.gone=rs at*;generalize s.boxes[i].af.map aD=r1 at*;generalize au s.boxes[i].gone=r2 at*;generalize b'.af.map aD=r3 at*;generalize au b'.gone=r4 at*;cases ok
   ·simp only[az,if_false];simp (maxSteps:=9^9) [bB,cm.m,cm.b,ab,setAt,hi,ni,h1,h2,h4,h5,h6,er,eg,a1,aa];exact⟨hrb.symm,hrs.symm⟩
   ·simp only[if_true];generalize s'.boxes.map ah=rb' at*;generalize au s'.gone=rs' at*;simp (maxSteps:=9^9) [bB,cm.m,cm.b,ab,setAt,hi,ni,h1,h2,h5,h6,h7,er,er2,eg2,a1,aa]
theorem cn.aE(h:cn.k M)(s:aP)(hs:kT s)(g m:Int):
  run M 281 [.a (ao s),.c (I g),.c (I m)] []=some (.hC [.a (bm (iP s g m).1),.c (.bool (iP s g m).2)],[]):=by
 obtain⟨h0,kt,ko,kb,kc⟩:=h;have h1:=bJ.aE kb s g hs.mi.b;have h2:=aC.aE ko s hs.mi;have h4:=bz.aE kc s hs.mi;have er:(s.boxes.map ah).length=s.boxes.length:=by simp
 have eg:=bK s.gone;refine aq (b:=cn.m) h0 ⟨0, ?_⟩;unfold iP;cases c1:aW s with
 |false=>
  rw[c1] at h2;simp only[az,if_false];simp only[ao,bm,boxes,ints] at*;generalize s.boxes.map ah=rb at*;generalize au s.gone=rs at*;simp (maxSteps:=9^9) [bB,cn.m,cn.b,ab,setAt,h1,h2,h4,er,eg,aa]
 |true=>
  rw[c1] at h2;rw[if_pos rfl];cases c3:gH s.boxes g with
  |none=>
   rw[c3] at h1;rw[g_ c3];simp only[ao,bm,boxes,ints,di] at*;generalize s.boxes.map ah=rb at*;generalize au s.gone=rs at*;simp (maxSteps:=9^9) [bB,cn.m,cn.b,ab,setAt,h1,h2,h4,er,eg,aa]
  |some i=>
   rw[c3] at h1;obtain⟨hi,_⟩:=eE c3;rw[gZ c3 hi];have hG:=(fk c1).boxes.mn _ (ax hi);have h6:=bT.aE kt s.boxes[i] hG.wk m;have a1:∀hh,(s.boxes.map ah)[i]'hh=ah s.boxes[i]:=by intro hh;simp
   have ni:¬(i:Int)<0:=by omega
   generalize fb s.boxes[i] m=A at*;obtain⟨b',ok⟩:=A;have es:(s.boxes.set i b').map ah=(s.boxes.map ah).set i (ah b'):=iU;simp only[ao,bm,boxes,ints,di] at h1 h2 h4 ⊢;simp only[ah,dR,af,ints] at h6 a1 es;cases ok
   ·simp only[az,if_false];generalize s.boxes.map ah=rb at*;generalize au s.gone=rs at*;generalize s.boxes[i].af.map aD=r1 at*;generalize au s.boxes[i].gone=r2 at*;generalize b'.af.map aD=r3 at*;generalize au b'.gone=r4 at*;simp (maxSteps:=9^9) [bB,cn.m,cn.b,ab,setAt,hi,ni,h1,h2,h4,h6,er,eg,a1,aa]
   ·simp only[if_true,es];clear es;generalize s.boxes.map ah=rb at*;generalize au s.gone=rs at*;generalize s.boxes[i].af.map aD=r1 at*;generalize au s.boxes[i].gone=r2 at*;generalize b'.af.map aD=r3 at*;generalize au b'.gone=r4 at*;simp (maxSteps:=9^9) [bB,cn.m,cn.b,ab,setAt,hi,ni,h1,h2,h4,h6,er,eg,a1,aa]
def fw(s:aP)(nm:List UInt8)(b:cX):cX:={b with name:=nm,time:=s.time+1,eP:=s.eP}
def gQ(s:aP)(g:Int)(nm:List UInt8):aP×Bool:=if aW s=true∧(named s.boxes nm).isSome=false then at_ s g fun i b=>stamped s i (fw s nm b) else(s,false)
theorem bN.aE(h:bN.k M)(s:aP)(hs:kT s)(g:Int)(nm:List UInt8)(hn:nm.length≤1048576):
  run M 282 [.a (ao s),.c (I g),.c (S nm)] []=some (.hC [.a (bm (gQ s g nm).1),.c (.bool (gQ s g nm).2)],[]):=by
 obtain⟨h0,ko,kb,kc,kn,kst⟩:=h;have ht:=hs.time;have h1:=bJ.aE kb s g hs.mi.b;have h2:=aC.aE ko s hs.mi;have h3:=bg.aE kn s nm hs.mi.b;have h4:=bz.aE kc s hs.mi;have h5:=ca.aE kst s hs.time;have er:(s.boxes.map ah).length=s.boxes.length:=by simp
 have eg:=bK s.gone;have e5:IntKind.i64.wrap (s.time+1)=s.time+1:=wrap_i64 (by omega) (by omega);refine aq (b:=bN.m) h0 ⟨0, ?_⟩;unfold gQ;cases c1:aW s with
 |false=>
  rw[c1] at h2;simp only[az,false_and,if_false];simp only[ao,bm,boxes,ints] at*;generalize s.boxes.map ah=rb at*;generalize au s.gone=rs at*;simp (maxSteps:=9^9) [bB,bN.m,bN.b,ab,setAt,h1,h2,h4,er,eg,aa]
 |true=>
  rw[c1] at h2;cases c3:gH s.boxes g with
  |none=>
   rw[c3] at h1;have e:(if true=true∧(named s.boxes nm).isSome=false then at_ s g fun i b=>stamped s i (fw s nm b) else(s,false))=(s,false):=by
    rw[g_ c3];split<;>rfl
   rw[e];simp only[ao,bm,boxes,ints,di] at*;generalize s.boxes.map ah=rb at*;generalize au s.gone=rs at*;simp (maxSteps:=9^9) [bB,bN.m,bN.b,ab,setAt,h1,h2,h4,er,eg,aa]
  |some i=>
   rw[c3] at h1;obtain⟨hi,_⟩:=eE c3;have ni:¬(i:Int)<0:=by omega
   have c0:=hQ (named s.boxes nm);cases c2:(named s.boxes nm).isSome with
   |true=>
    rw[c2] at c0;simp only[decide_eq_true_eq] at c0;simp only[Bool.true_eq_false,and_false,if_false];generalize di (named s.boxes nm)=z at*;simp only[ao,bm,boxes,ints,di] at*;generalize s.boxes.map ah=rb at*;generalize au s.gone=rs at*;simp (maxSteps:=9^9) [bB,bN.m,bN.b,ab,setAt,ni,c0,h1,h2,h3,h4,er,eg,aa]
   |false=>
    rw[c2] at c0;simp only[decide_eq_false_iff_not] at c0;rw[if_pos ⟨rfl,rfl⟩,gZ c3 hi];have hG:=(fk c1).boxes.mn _ (ax hi);have hin:ik (fw s nm s.boxes[i]):=⟨hG.wk.m,hG.wk.g,hn,hG.wk.f⟩;have h6:=aC.aE ko _ (lU hs.mi hi hin (by have:=ld c1;have:=hG.len;simp only[fw];omega));have a1:∀hh,(s.boxes.map ah)[i]'hh=ah s.boxes[i]:=by intro hh;simp
    have es:(dN s i (fw s nm s.boxes[i])).boxes.map ah=(s.boxes.map ah).set i (ah (fw s nm s.boxes[i])):=by simp only[dN,iU]
    have ew:(dN s i (fw s nm s.boxes[i])).eP=s.eP:=rfl;have et:(dN s i (fw s nm s.boxes[i])).time=s.time+1:=rfl;have egn:(dN s i (fw s nm s.boxes[i])).gone=s.gone:=rfl;unfold stamped;generalize di (named s.boxes nm)=z at*;cases c:aW (dN s i (fw s nm s.boxes[i])) with
    |true=>
     rw[c] at h6;rw[if_pos rfl];simp only[ao,bm,boxes,ints,di,es,ew,et,egn] at h1 h2 h3 h4 h5 h6 ⊢;clear es c;simp only[ah,af,ints,fw] at h6 a1 ⊢;generalize s.boxes.map ah=rb at*;generalize au s.gone=rs at*;generalize s.boxes[i].af.map aD=r1 at*;generalize au s.boxes[i].gone=r2 at*;simp (maxSteps:=9^9) [bB,bN.m,bN.b,ab,setAt,hi,ni,c0,h1,h2,h3,h4,h5,h6,e5,er,eg,a1,aa]
    |false=>
     rw[c] at h6;rw[if_neg (by decide)];simp only[ao,bm,boxes,ints,di,es,ew,et,egn] at h1 h2 h3 h4 h5 h6 ⊢;clear es c;simp only[ah,af,ints,fw] at h6 a1 ⊢;generalize s.boxes.map ah=rb at*;generalize au s.gone=rs at*;generalize s.boxes[i].af.map aD=r1 at*;generalize au s.boxes[i].gone=r2 at*;simp (maxSteps:=9^9) [bB,bN.m,bN.b,ab,setAt,hi,ni,c0,h1,h2,h3,h4,h5,h6,e5,er,eg,a1,aa]
def jZ(s:aP)(g:Int):aP×Bool:=if aW s=true∧s.gone.length<20 then at_ s g fun i _=>({s with boxes:=s.boxes.take i++s.boxes.drop (i+1),gone:=jY s.gone g},true) else(s,false)
theorem cy.aE(h:cy.k M)(s:aP)(hs:kT s)(g:Int):
  run M 283 [.a (ao s),.c (I g)] []=some (.hC [.a (bm (jZ s g).1),.c (.bool (jZ s g).2)],[]):=by
 obtain⟨h0,kp,ko,kb,kc⟩:=h;have h1:=bJ.aE kb s g hs.mi.b;have h2:=aC.aE ko s hs.mi;have h4:=bz.aE kc s hs.mi;have h5:=bX.aE kp s.gone g (by have:=hs.mi.g;omega);have er:(s.boxes.map ah).length=s.boxes.length:=by simp
 have eg:=bK s.gone;have hbl:=hs.mi.b;refine aq (b:=cy.m) h0 ⟨0, ?_⟩;unfold jZ;cases c1:aW s with
 |false=>
  rw[c1] at h2;simp only[az,false_and,if_false];simp only[ao,bm,boxes,ints] at*;generalize s.boxes.map ah=rb at*;generalize au s.gone=rs at*;simp (maxSteps:=9^9) [bB,cy.m,cy.b,ab,setAt,h1,h2,h4,er,eg,aa]
 |true=>
  rw[c1] at h2;cases c3:gH s.boxes g with
  |none=>
   rw[c3] at h1;have e:(if true=true∧s.gone.length<20 then at_ s g fun i _=>({s with boxes:=s.boxes.take i++s.boxes.drop (i+1),gone:=jY s.gone g},true) else(s,false))=(s,false):=by
    rw[g_ c3];split<;>rfl
   rw[e];simp only[ao,bm,boxes,ints,di] at*;generalize s.boxes.map ah=rb at*;generalize au s.gone=rs at*;simp (maxSteps:=9^9) [bB,cy.m,cy.b,ab,setAt,h1,h2,h4,er,eg,aa]
  |some i=>
   rw[c3] at h1;obtain⟨hi,_⟩:=eE c3;have ni:¬(i:Int)<0:=by omega
   by_cases c2:s.gone.length<20
   ·have c2':¬(20:Int)≤(s.gone.length:Int):=by omega
    have c2'':¬20≤s.gone.length:=by omega
    rw[if_pos ⟨rfl,c2⟩,gZ c3 hi];have e5:=dS (i:=i) (by omega);have e6:(s.boxes.take i++s.boxes.drop (i+1)).map ah=(s.boxes.map ah).take i++(s.boxes.map ah).drop (i+1):=by simp[List.map_take,List.map_drop]
    have e7:=bK (jY s.gone g);have e8:i≤s.boxes.length:=by omega
    have e9:i+(s.boxes.length-(i+1))≤4294967296:=by omega
    have e10:i≤4294967296:=by omega
    have e11:i+1≤s.boxes.length:=by omega
    have e12:Min.min i s.boxes.length=i:=by omega
    simp only[ao,bm,boxes,ints,di,e6] at h1 h2 h4 h5 ⊢;generalize au (jY s.gone g)=rp at*;generalize s.boxes.map ah=rb at*;generalize au s.gone=rs at*;have f1:(0:Int)≤(i:Int)+1:=by omega
    have f2:((i:Int)+1).toNat=i+1:=by omega
    by_cases c9:i+1=s.boxes.length
    ·have d1:rb.drop (i+1)=[]:=dQ (by omega);have d2:rb.drop s.boxes.length=[]:=dQ (by omega);have d3:s.boxes.length-(i+1)=0:=by omega
     have d4:¬s.boxes.length=0:=by omega
     rw[←c9] at hi er;simp (maxSteps:=9^9) [bB,cy.m,cy.b,ab,setAt,ni,c2',h1,h2,h4,h5,e5,e7,e10,d1,f1,f2,er,eg,aa]
    ·simp (maxSteps:=9^9) [bB,cy.m,cy.b,ab,setAt,ni,c2',c9,f1,f2,h1,h2,h4,h5,e5,e7,e8,e9,e10,e11,e12,er,eg,aa]
   ·have c2':(20:Int)≤(s.gone.length:Int):=by omega
    have c2'':20≤s.gone.length:=by omega
    simp only[c2,and_false,if_false];simp only[ao,bm,boxes,ints,di] at*;generalize s.boxes.map ah=rb at*;generalize au s.gone=rs at*;simp (maxSteps:=9^9) [bB,cy.m,cy.b,ab,setAt,ni,c2',h1,h2,h4,er,eg,aa]
end Mx

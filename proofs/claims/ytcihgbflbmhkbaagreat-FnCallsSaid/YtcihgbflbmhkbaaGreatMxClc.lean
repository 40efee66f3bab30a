/-
  What more of the functions compute, each by a small evaluation; no condition beyond what each says.
-/
import Derived.Laws.IdiomCopy
import Derived.Laws.Append
import Derived.Test.YtcihgbflbmhkbaaGreatMxClb
set_option maxHeartbeats 16000000
set_option linter.unusedSimpArgs false
set_option linter.unusedVariables false
namespace Mx
open Go
def b7.l0:C:= .seq (.seq (.aj [Qm 9 6,Qm 10 0,Q 11 (.len (.t 10)),Q 12 (.bin .lss (.t 9) (.t 11))] [0,1,5,6,12] [8,27,31,50])
 (.cond (.t 12) (.skip) (.exit 0)))
 (.seq (.block 1 (.seq (.aj [Qm 15 0,Qm 16 6,Qa 17 1 15 16,Ql 18 17,Qm 19 1,Q 20 (.bin .lss (.t 18) (.t 19))] [0,1,5,6,20] [8,27,31,50])
 (.cond (.t 20) (.aj [Qm 21 5,Qm 22 0,Qm 23 6,Qa 24 1 22 23,Ql 25 24,Q 26 (.bL 1 1 [.int .i64 0] [(0,.t 25)]),Q 27 (.app 1 8 (.t 21) (.t 26)),Qm 5 27] [0,1,5,6] [8,27,31,50]) (.skip))))
 (.aj [Qm 13 6,Q 14 (.bin .add (.t 13) (kI 1)),Qm 6 14] [0,1,5,6] [8,27,31,50]))
def b7.l1:C:= .seq (.seq (.aj [Qm 32 7,Qm 33 0,Q 34 (.len (.t 33)),Q 35 (.bin .lss (.t 32) (.t 34))] [0,1,5,7,35] [8,27,31,50])
 (.cond (.t 35) (.skip) (.exit 2)))
 (.seq (.block 3 (.seq (.aj [Qm 38 0,Qm 39 7,Qa 40 1 38 39,Ql 41 40,Qm 42 1,Q 43 (.bin .gtr (.t 41) (.t 42))] [0,1,5,7,43] [8,27,31,50])
 (.cond (.t 43) (.aj [Qm 44 5,Qm 45 0,Qm 46 7,Qa 47 1 45 46,Ql 48 47,Q 49 (.bL 1 1 [.int .i64 0] [(0,.t 48)]),Q 50 (.app 1 8 (.t 44) (.t 49)),Qm 5 50] [0,1,5,7] [8,27,31,50]) (.skip))))
 (.aj [Qm 36 7,Q 37 (.bin .add (.t 36) (kI 1)),Qm 7 37] [0,1,5,7] [8,27,31,50]))
def b7.b:C:= .seq (.aj [Q 4 (.nil 1)] [0,1] [])
 (.seq (.aj [Q 8 (.bL 1 0 [.int .i64 0] []),Qm 5 8] [0,1,5] [8,27,31,50])
 (.seq (.seq (.aj [Qi 6 0] [0,1,5,6] [8,27,31,50])
 (.block 0 (.loop b7.l0)))
 (.seq (.aj [Qm 28 5,Qm 29 1,Q 30 (.bL 1 1 [.int .i64 0] [(0,.t 29)]),Q 31 (.app 1 8 (.t 28) (.t 30)),Qm 5 31] [0,1,5] [8,27,31,50])
 (.seq (.seq (.aj [Qi 7 0] [0,1,5,7] [8,27,31,50])
 (.block 2 (.loop b7.l1)))
 (.seq (.aj [Qm 51 5,Qm 4 51] [4] [4,8,27,31,50])
 (.ret))))))
def b7.m:Fn:={np:=2,body:=b7.b,res:=[.tmp 4]}
def b7.k(M:Nat→Option Body):Prop:=M 133=some (.code b7.m)
def aY.l0:C:= .seq (.seq (.aj [Qm 9 6,Qm 10 0,Q 11 (.len (.t 10)),Q 12 (.bin .lss (.t 9) (.t 11))] [0,1,5,6,12] [8,12700,14600])
 (.cond (.t 12) (.skip) (.exit 0)))
 (.seq (.block 1 (.seq (.aj [Qm 15 5,Qm 16 0,Qm 17 6,Qa 18 1 16 17,Ql 19 18,Q 20 (.call 132 [.t 15,.t 19] [] []),Q 21 (.not (.t 20))] [0,1,5,6,21] [8,12700,14600])
 (.cond (.t 21) (.aj [Qm 22 5,Qm 23 0,Qm 24 6,Qa 25 1 23 24,Ql 26 25,Q 27 (.call 133 [.t 22,.t 26] [] [(0,12700)]),Qm 5 27] [0,1,5,6] [8,12700,14600]) (.skip))))
 (.aj [Qm 13 6,Q 14 (.bin .add (.t 13) (kI 1)),Qm 6 14] [0,1,5,6] [8,12700,14600]))
def aY.l1:C:= .seq (.seq (.aj [Qm 28 7,Qm 29 1,Q 30 (.len (.t 29)),Q 31 (.bin .lss (.t 28) (.t 30))] [1,5,7,31] [8,12700,14600])
 (.cond (.t 31) (.skip) (.exit 2)))
 (.seq (.block 3 (.seq (.aj [Qm 34 5,Qm 35 1,Qm 36 7,Qa 37 1 35 36,Ql 38 37,Q 39 (.call 132 [.t 34,.t 38] [] []),Q 40 (.not (.t 39))] [1,5,7,40] [8,12700,14600])
 (.cond (.t 40) (.aj [Qm 41 5,Qm 42 1,Qm 43 7,Qa 44 1 42 43,Ql 45 44,Q 46 (.call 133 [.t 41,.t 45] [] [(0,14600)]),Qm 5 46] [1,5,7] [8,12700,14600]) (.skip))))
 (.aj [Qm 32 7,Q 33 (.bin .add (.t 32) (kI 1)),Qm 7 33] [1,5,7] [8,12700,14600]))
def aY.b:C:= .seq (.aj [Q 4 (.nil 1)] [0,1] [])
 (.seq (.aj [Q 8 (.bL 1 0 [.int .i64 0] []),Qm 5 8] [0,1,5] [8,12700,14600])
 (.seq (.seq (.aj [Qi 6 0] [0,1,5,6] [8,12700,14600])
 (.block 0 (.loop aY.l0)))
 (.seq (.seq (.aj [Qi 7 0] [1,5,7] [8,12700,14600])
 (.block 2 (.loop aY.l1)))
 (.seq (.aj [Qm 47 5,Qm 4 47] [4] [4,8,12700,14600])
 (.ret)))))
def aY.m:Fn:={np:=2,body:=aY.b,res:=[.tmp 4]}
def aY.k(M:Nat→Option Body):Prop:=M 43=some (.code aY.m)∧bl.k M∧b7.k M
def fI.b:C:= .seq (.aj [Q 4 (.nil 1)] [0,1] [])
 (.seq (.aj [Qm 6 0,Q 7 (.call 134 [.t 6] [] [(0,10700)]),Qm 8 1,Q 9 (.app 1 8 (.t 7) (.t 8)),Qm 5 9] [5] [9,10700])
 (.seq (.aj [Qm 10 5,Q 11 (.call 135 [.t 10] [0] [])] [5] [9,10700])
 (.seq (.aj [Qm 12 5,Q 13 (.call 136 [.t 12] [0] [(0,11300)]),Qm 4 13] [4] [4,9,10700,11300])
 (.ret))))
def fI.m:Fn:={np:=2,body:=fI.b,res:=[.tmp 4]}
def fI.k(M:Nat→Option Body):Prop:=M 44=some (.code fI.m)∧fj.k M∧M 135=some (.ext uV)∧M 136=some (.ext oD)
def fV.b:C:= .seq (.aj [Qb 2 false] [0] [])
 (.seq (.aj [Qm 3 0,Q 4 (.call 101 [.t 3,kI 0,kI 7] [] []),Qm 2 4] [2] [])
 (.ret))
def fV.m:Fn:={np:=1,body:=fV.b,res:=[.tmp 2]}
def fV.k(M:Nat→Option Body):Prop:=M 148=some (.code fV.m)∧cj.k M
def cn.l0:C:= .seq (.seq (.aj [Qm 34 5,Qf 35 2 2,Ql 36 35,Q 37 (.len (.t 36)),Q 38 (.bin .lss (.t 34) (.t 37))] [2,3,5,38] [2,3])
 (.cond (.t 38) (.skip) (.exit 0)))
 (.seq (.block 1 (.seq (.gf [Qf 41 2 2,Ql 42 41,Qm 43 5,Qa 44 3 42 43,QL 45 3 44,Qf 46 2 3,Ql 47 46,Qm 48 5,Qa 49 3 47 48,QL 50 3 49,Q 51 (.eqs true [.int,.int,.int] (.t 45) (.t 50))] [[],[0],[],[0,1,2],[0,1,2,3],[],[5],[],[5,6,7],[5,6,7,8],[0,1,2,3,4,5,6,7,8,9]] [2,3,5,51] [2,3])
 (.cond (.t 51) (.seq (.aj [Qb 4 false] [4] [])
 (.ret)) (.skip))))
 (.aj [Qm 39 5,Q 40 (.bin .add (.t 39) (kI 1)),Qm 5 40] [2,3,5] [2,3]))
def cn.b:C:= .seq (.aj [Qv 2 0,Qv 3 1,Qb 4 false] [2,3] [2,3])
 (.seq (.seq (.aj [Qf 6 0 2,Ql 7 6,Qf 8 0 3,Ql 9 8,Q 10 (.bin .neq (.t 7) (.t 9)),Qm 11 10,Qg 12 (.bK 1 (.t 2)) 11 false,Qg 13 (.load false 1 (.t 12)) 11 false,
   Qg 14 (.bK 1 (.t 3)) 11 false,Qg 15 (.load false 1 (.t 14)) 11 false,Qg 16 (.bin .neq (.t 13) (.t 15)) 11 false,Q 17 (.pick (.t 11) (kB true) (.t 16)),Qm 18 17,
   Qg 19 (.bK 3 (.t 2)) 18 false,Qg 20 (.load false 1 (.t 19)) 18 false,Qg 21 (.bK 3 (.t 3)) 18 false,Qg 22 (.load false 1 (.t 21)) 18 false,
   Qg 23 (.bin .neq (.t 20) (.t 22)) 18 false,Q 24 (.pick (.t 18) (kB true) (.t 23)),Qm 25 24,Qg 26 (.bK 2 (.t 2)) 25 false,Qg 27 (.load false 1 (.t 26)) 25 false,
   Qg 28 (.len (.t 27)) 25 false,Qg 29 (.bK 2 (.t 3)) 25 false,Qg 30 (.load false 1 (.t 29)) 25 false,Qg 31 (.len (.t 30)) 25 false,Qg 32 (.bin .neq (.t 28) (.t 31)) 25 false,
   Q 33 (.pick (.t 25) (kB true) (.t 32))] [2,3,33] [2,3])
 (.cond (.t 33) (.seq (.aj [Qb 4 false] [4] [])
 (.ret)) (.skip)))
 (.seq (.seq (.aj [Qi 5 0] [2,3,5] [2,3])
 (.block 0 (.loop cn.l0)))
 (.seq (.aj [Qb 4 true] [4] [])
 (.ret))))
def cn.m:Fn:={np:=2,body:=cn.b,res:=[.tmp 4]}
def cn.k(M:Nat→Option Body):Prop:=M 159=some (.code cn.m)
def bO.l0:C:= .seq (.seq (.aj [Qm 51 5,Qf 52 5 2,Ql 53 52,Q 54 (.len (.t 53)),Q 55 (.bin .lss (.t 51) (.t 54))] [2,3,5,55] [2,3])
 (.cond (.t 55) (.skip) (.exit 0)))
 (.seq (.block 1 (.seq (.gf [Qf 58 5 2,Ql 59 58,Qm 60 5,Qa 61 4 59 60,QL 62 4 61,Qf 63 5 3,Ql 64 63,Qm 65 5,Qa 66 4 64 65,QL 67 4 66,Q 68 (.call 159 [.t 62,.t 67] [] []),Q 69 (.not (.t 68))] [[],[0],[],[0,1,2],[0,1,2,3],[],[5],[],[5,6,7],[5,6,7,8],[0,1,2,3,4,5,6,7,8,9],[0,1,2,3,4,5,6,7,8,9,10]] [2,3,5,69] [2,3])
 (.cond (.t 69) (.seq (.aj [Qb 4 false] [4] [])
 (.ret)) (.skip))))
 (.aj [Qm 56 5,Q 57 (.bin .add (.t 56) (kI 1)),Qm 5 57] [2,3,5] [2,3]))
def bO.l1:C:= .seq (.seq (.aj [Qm 70 6,Qf 71 6 2,Ql 72 71,Q 73 (.len (.t 72)),Q 74 (.bin .lss (.t 70) (.t 73))] [2,3,6,74] [2,3])
 (.cond (.t 74) (.skip) (.exit 2)))
 (.seq (.block 3 (.seq (.gf [Qf 77 6 2,Ql 78 77,Qm 79 6,Qa 80 1 78 79,Ql 81 80,Qf 82 6 3,Ql 83 82,Qm 84 6,Qa 85 1 83 84,Ql 86 85,Q 87 (.bin .neq (.t 81) (.t 86))] [[],[0],[],[0,1,2],[0,1,2,3],[],[5],[],[5,6,7],[5,6,7,8],[0,1,2,3,4,5,6,7,8,9]] [2,3,6,87] [2,3])
 (.cond (.t 87) (.seq (.aj [Qb 4 false] [4] [])
 (.ret)) (.skip))))
 (.aj [Qm 75 6,Q 76 (.bin .add (.t 75) (kI 1)),Qm 6 76] [2,3,6] [2,3]))
def bO.b:C:= .seq (.aj [Qv 2 0,Qv 3 1,Qb 4 false] [2,3] [2,3])
 (.seq (.seq (.aj [Qf 7 0 2,Ql 8 7,Qf 9 0 3,Ql 10 9,Q 11 (.bin .neq (.t 8) (.t 10)),Qm 12 11,Qg 13 (.bK 1 (.t 2)) 12 false,Qg 14 (.load false 1 (.t 13)) 12 false,
   Qg 15 (.bK 1 (.t 3)) 12 false,Qg 16 (.load false 1 (.t 15)) 12 false,Qg 17 (.bin .neq (.t 14) (.t 16)) 12 false,Q 18 (.pick (.t 12) (kB true) (.t 17)),Qm 19 18,
   Qg 20 (.bK 2 (.t 2)) 19 false,Qg 21 (.load true 2 (.t 20)) 19 false,Qg 22 (.bK 2 (.t 3)) 19 false,Qg 23 (.load true 2 (.t 22)) 19 false,
   Qg 24 (.eqs true [.int,.int] (.t 21) (.t 23)) 19 false,Q 25 (.pick (.t 19) (kB true) (.t 24)),Qm 26 25,Qg 27 (.bK 4 (.t 2)) 26 false,Qg 28 (.load false 1 (.t 27)) 26 false,
   Qg 29 (.bK 4 (.t 3)) 26 false,Qg 30 (.load false 1 (.t 29)) 26 false,Qg 31 (.bin .neq (.t 28) (.t 30)) 26 false,Q 32 (.pick (.t 26) (kB true) (.t 31)),Qm 33 32,
   Qg 34 (.bK 5 (.t 2)) 33 false,Qg 35 (.load false 1 (.t 34)) 33 false,Qg 36 (.len (.t 35)) 33 false,Qg 37 (.bK 5 (.t 3)) 33 false,Qg 38 (.load false 1 (.t 37)) 33 false,
   Qg 39 (.len (.t 38)) 33 false,Qg 40 (.bin .neq (.t 36) (.t 39)) 33 false,Q 41 (.pick (.t 33) (kB true) (.t 40)),Qm 42 41,Qg 43 (.bK 6 (.t 2)) 42 false,
   Qg 44 (.load false 1 (.t 43)) 42 false,Qg 45 (.len (.t 44)) 42 false,Qg 46 (.bK 6 (.t 3)) 42 false,Qg 47 (.load false 1 (.t 46)) 42 false,Qg 48 (.len (.t 47)) 42 false,
   Qg 49 (.bin .neq (.t 45) (.t 48)) 42 false,Q 50 (.pick (.t 42) (kB true) (.t 49))] [2,3,50] [2,3])
 (.cond (.t 50) (.seq (.aj [Qb 4 false] [4] [])
 (.ret)) (.skip)))
 (.seq (.seq (.aj [Qi 5 0] [2,3,5] [2,3])
 (.block 0 (.loop bO.l0)))
 (.seq (.seq (.aj [Qi 6 0] [2,3,6] [2,3])
 (.block 2 (.loop bO.l1)))
 (.seq (.aj [Qb 4 true] [4] [])
 (.ret)))))
def bO.m:Fn:={np:=2,body:=bO.b,res:=[.tmp 4]}
def bO.k(M:Nat→Option Body):Prop:=M 116=some (.code bO.m)∧cn.k M
def df.l0:C:= .seq (.seq (.aj [Qm 23 5,Qf 24 2 2,Ql 25 24,Q 26 (.len (.t 25)),Q 27 (.bin .lss (.t 23) (.t 26))] [2,3,5,27] [2,3])
 (.cond (.t 27) (.skip) (.exit 0)))
 (.seq (.block 1 (.seq (.gf [Qf 30 2 2,Ql 31 30,Qm 32 5,Qa 33 7 31 32,QL 34 7 33,Qf 35 2 3,Ql 36 35,Qm 37 5,Qa 38 7 36 37,QL 39 7 38,Q 40 (.call 116 [.t 34,.t 39] [] []),Q 41 (.not (.t 40))] [[],[0],[],[0,1,2],[0,1,2,3],[],[5],[],[5,6,7],[5,6,7,8],[0,1,2,3,4,5,6,7,8,9],[0,1,2,3,4,5,6,7,8,9,10]] [2,3,5,41] [2,3])
 (.cond (.t 41) (.seq (.aj [Qb 4 false] [4] [])
 (.ret)) (.skip))))
 (.aj [Qm 28 5,Q 29 (.bin .add (.t 28) (kI 1)),Qm 5 29] [2,3,5] [2,3]))
def df.l1:C:= .seq (.seq (.aj [Qm 42 6,Qf 43 3 2,Ql 44 43,Q 45 (.len (.t 44)),Q 46 (.bin .lss (.t 42) (.t 45))] [2,3,6,46] [2,3])
 (.cond (.t 46) (.skip) (.exit 2)))
 (.seq (.block 3 (.seq (.gf [Qf 49 3 2,Ql 50 49,Qm 51 6,Qa 52 1 50 51,Ql 53 52,Qf 54 3 3,Ql 55 54,Qm 56 6,Qa 57 1 55 56,Ql 58 57,Q 59 (.bin .neq (.t 53) (.t 58))] [[],[0],[],[0,1,2],[0,1,2,3],[],[5],[],[5,6,7],[5,6,7,8],[0,1,2,3,4,5,6,7,8,9]] [2,3,6,59] [2,3])
 (.cond (.t 59) (.seq (.aj [Qb 4 false] [4] [])
 (.ret)) (.skip))))
 (.aj [Qm 47 6,Q 48 (.bin .add (.t 47) (kI 1)),Qm 6 48] [2,3,6] [2,3]))
def df.b:C:= .seq (.aj [Qv 2 0,Qv 3 1,Qb 4 false] [2,3] [2,3])
 (.seq (.seq (.aj [Qf 7 2 2,Ql 8 7,Q 9 (.len (.t 8)),Qf 10 2 3,Ql 11 10,Q 12 (.len (.t 11)),Q 13 (.bin .neq (.t 9) (.t 12)),Qm 14 13,Qg 15 (.bK 3 (.t 2)) 14 false,
   Qg 16 (.load false 1 (.t 15)) 14 false,Qg 17 (.len (.t 16)) 14 false,Qg 18 (.bK 3 (.t 3)) 14 false,Qg 19 (.load false 1 (.t 18)) 14 false,Qg 20 (.len (.t 19)) 14 false,
   Qg 21 (.bin .neq (.t 17) (.t 20)) 14 false,Q 22 (.pick (.t 14) (kB true) (.t 21))] [2,3,22] [2,3])
 (.cond (.t 22) (.seq (.aj [Qb 4 false] [4] [])
 (.ret)) (.skip)))
 (.seq (.seq (.aj [Qi 5 0] [2,3,5] [2,3])
 (.block 0 (.loop df.l0)))
 (.seq (.seq (.aj [Qi 6 0] [2,3,6] [2,3])
 (.block 2 (.loop df.l1)))
 (.seq (.aj [Qb 4 true] [4] [])
 (.ret)))))
def df.m:Fn:={np:=2,body:=df.b,res:=[.tmp 4]}
def df.k(M:Nat→Option Body):Prop:=M 31=some (.code df.m)∧bO.k M
def gM.b:C:= .seq (.aj [Q 2 (.nil 3)] [0] [])
 (.seq (.aj [Q 3 (.bL 3 0 [.int .i64 0,.int .i64 0,.int .i64 0] []),Qm 4 0,Q 5 (.app 3 24 (.t 3) (.t 4)),Qm 2 5] [2] [2,3,5])
 (.ret))
def gM.m:Fn:={np:=1,body:=gM.b,res:=[.tmp 2]}
def gM.k(M:Nat→Option Body):Prop:=M 239=some (.code gM.m)
def eQ.b:C:= .seq (.aj [Qv 1 0,Q 2 (.alloc [.int .i64 0,.int .i64 0,.aO 3,.str ⟨#[]⟩])] [1,2] [1,2,10500])
 (.seq (.aj [Qf 3 2 1,Ql 4 3,Q 5 (.call 239 [.t 4] [] [(0,10500)]),Qf 6 2 1,Qs 1 6 5] [1,2] [1,2,10500])
 (.seq (.aj [QL 7 4 1,Qs 4 2 7] [2] [2,10500])
 (.ret)))
def eQ.m:Fn:={np:=1,body:=eQ.b,res:=[.cell 2 true 4]}
def eQ.k(M:Nat→Option Body):Prop:=M 233=some (.code eQ.m)∧gM.k M
def cA.l0:C:= .seq (.aj [Q 13 (.bin .lss (.t 12) (.t 11))] [1,2,3,10,11,12,13] [1,2,3,7,21,12600])
 (.seq (.cond (.t 13) (.skip) (.exit 0))
 (.seq (.block 1 (.seq (.aj [Qa 14 4 10 12,QL 15 4 14,Q 5 (.alloc [.int .i64 0,.int .i64 0,.aO 3,.str ⟨#[]⟩]),Qs 4 5 15] [1,2,3,5,10,11,12] [1,2,3,5,7,21,12600])
 (.gf [Qf 16 5 3,Ql 17 16,QL 18 4 5,Q 19 (.call 233 [.t 18] [] []),Q 20 (.bL 4 1 [.int .i64 0,.int .i64 0,.aO 3,.str ⟨#[]⟩] [(0,.t 19)]),Q 21 (.app 4 56 (.t 17) (.t 20)),
   Qf 22 5 3,Qs 1 22 21] [[],[0],[],[2],[2,3],lr 5,lr 6,lr 7] [1,2,3,10,11,12] [1,2,3,7,21,12600])))
 (.aj [Q 23 (.bin .add (.t 12) (kI 1)),Qm 12 23] [1,2,3,10,11,12] [1,2,3,7,21,12600])))
def cA.b:C:= .seq (.aj [Qv 1 0,Q 2 (.alloc [.int .i64 0,.str ⟨#[]⟩,.int .i64 0,.int .i64 0,.int .i64 0,.aO 4,.aO 1])] [1,2] [1,2,7,21,12600])
 (.seq (.aj [QL 6 7 1,Q 3 (.alloc [.int .i64 0,.str ⟨#[]⟩,.int .i64 0,.int .i64 0,.int .i64 0,.aO 4,.aO 1]),Qs 7 3 6] [1,2,3] [1,2,3,7,21,12600])
 (.seq (.aj [Q 7 (.bL 4 0 [.int .i64 0,.int .i64 0,.aO 3,.str ⟨#[]⟩] []),Qf 8 5 3,Qs 1 8 7] [1,2,3] [1,2,3,7,21,12600])
 (.seq (.seq (.aj [Qf 9 5 1,Ql 10 9,Q 11 (.len (.t 10)),Qi 12 0] [1,2,3,10,11,12] [1,2,3,7,21,12600])
 (.block 0 (.loop cA.l0)))
 (.seq (.aj [Qf 24 6 1,Ql 25 24,Q 26 (.call 134 [.t 25] [] [(0,12600)]),Qf 27 6 3,Qs 1 27 26] [2,3] [2,3,7,21,12600])
 (.seq (.aj [QL 28 7 3,Qs 7 2 28] [2] [2,7,21,12600])
 (.ret))))))
def cA.m:Fn:={np:=1,body:=cA.b,res:=[.cell 2 true 7]}
def cA.k(M:Nat→Option Body):Prop:=M 155=some (.code cA.m)∧fj.k M∧eQ.k M
def gv.l0:C:= .seq (.aj [Q 9 (.bin .lss (.t 8) (kI 3))] [0,3,5,8,9] [3,7,19])
 (.seq (.cond (.t 9) (.skip) (.exit 0))
 (.seq (.block 1 (.seq (.aj [Qm 10 8,Qm 6 10] [0,3,5,6,8] [3,7,19])
 (.gf [Qm 11 5,Qm 12 0,Qm 13 6,Q 14 (.bin .shr (.t 12) (.t 13)),Q 15 (.bin .and (.t 14) (kI 1)),QL 16 2 3,
   Q 17 (.build [.int .i64 0,.int .i64 0,.int .i64 0] [(0,1,.t 15),(1,2,.t 16)]),Q 18 (.bL 3 1 [.int .i64 0,.int .i64 0,.int .i64 0] [(0,.t 17)]),
   Q 19 (.app 3 24 (.t 11) (.t 18)),Qm 5 19] [[],[],[],[1,2],[1,2,3],[],[1,2,3,4,5],[1,2,3,4,5,6],lr 8,lr 9] [0,3,5,8] [3,7,19])))
 (.aj [Q 20 (.bin .add (.t 8) (kI 1)),Qm 8 20] [0,3,5,8] [3,7,19])))
def gv.b:C:= .seq (.aj [Qv 3 1,Q 4 (.nil 3)] [0,3] [3])
 (.seq (.aj [Q 7 (.bL 3 0 [.int .i64 0,.int .i64 0,.int .i64 0] []),Qm 5 7] [0,3,5] [3,7,19])
 (.seq (.seq (.aj [Qi 8 0] [0,3,5,8] [3,7,19])
 (.block 0 (.loop gv.l0)))
 (.seq (.aj [Qm 21 5,Qm 4 21] [4] [4,7,19])
 (.ret))))
def gv.m:Fn:={np:=2,body:=gv.b,res:=[.tmp 4]}
def gv.k(M:Nat→Option Body):Prop:=M 157=some (.code gv.m)
def eC.b:C:= .seq (.aj [Qv 5 0,Qv 9 4,Q 10 (.alloc [.int .i64 0,.str ⟨#[]⟩,.int .i64 0,.int .i64 0,.int .i64 0,.aO 4,.aO 1]),Qb 11 false] [1,2,3,5,9,10] [5,9,10,47,11405,11406,15705,15706])
 (.seq (.aj [QL 13 7 5,Q 14 (.call 155 [.t 13] [] [(5,11405),(6,11406)]),Q 12 (.alloc [.int .i64 0,.str ⟨#[]⟩,.int .i64 0,.int .i64 0,.int .i64 0,.aO 4,.aO 1]),Qs 7 12 14] [1,2,3,5,9,10,12] [5,9,10,12,47,11405,11406,15705,15706])
 (.seq (.seq (.aj [QL 15 7 5,Q 16 (.call 74 [.t 15] [] []),Q 17 (.not (.t 16)),Qm 18 17,Qg 19 (.load true 7 (.t 5)) 18 false,Qg 20 (.mv (.t 1)) 18 false,
   Qg 21 (.call 72 [.t 19,.t 20] [] []) 18 false,Qg 22 (.bin .geq (.t 21) (kI 0)) 18 false,Q 23 (.pick (.t 18) (kB true) (.t 22)),Qm 24 23,Qg 25 (.bK 6 (.t 5)) 24 false,
   Qg 26 (.load false 1 (.t 25)) 24 false,Qg 27 (.mv (.t 1)) 24 false,Qg 28 (.call 156 [.t 26,.t 27] [] []) 24 false,Q 29 (.pick (.t 24) (kB true) (.t 28)),Qm 30 29,
   Qg 31 (.mv (.t 2)) 30 false,Qg 32 (.call 148 [.t 31] [] []) 30 false,Qg 33 (.not (.t 32)) 30 false,Q 34 (.pick (.t 30) (kB true) (.t 33))] [1,2,3,5,9,10,12,34] [5,9,10,12,47,11405,11406,15705,15706])
 (.cond (.t 34) (.seq (.aj [QL 35 7 12,Qs 7 10 35,Qb 11 false] [10,11] [10,47,11405,11406,15705,15706])
 (.ret)) (.skip)))
 (.seq (.gf [Qf 36 5 12,Ql 37 36,Qm 38 1,Qf 39 4 5,Ql 40 39,Qm 41 2,QL 42 2 9,Q 43 (.call 157 [.t 41,.t 42] [] []),Qm 44 3,
   Q 45 (.build [.int .i64 0,.int .i64 0,.aO 3,.str ⟨#[]⟩] [(0,1,.t 38),(1,1,.t 40),(2,1,.t 43),(3,1,.t 44)]),
   Q 46 (.bL 4 1 [.int .i64 0,.int .i64 0,.aO 3,.str ⟨#[]⟩] [(0,.t 45)]),Q 47 (.app 4 56 (.t 37) (.t 46)),Qf 48 5 12,Qs 1 48 47] [[],[0],[],[],[3],[],[],[5,6],[],[2,3,4,5,6,7,8],[2,3,4,5,6,7,8,9],lr 11,lr 12,lr 13] [5,10,12] [5,10,12,47,11405,11406,15705,15706])
 (.seq (.aj [Qf 49 4 12,Ql 50 49,Q 51 (.bin .add (.t 50) (kI 1)),Qf 52 4 12,Qs 1 52 51] [5,10,12] [5,10,12,47,11405,11406,15705,15706])
 (.seq (.seq (.aj [QL 53 7 12,Q 54 (.call 74 [.t 53] [] []),Q 55 (.not (.t 54))] [5,10,12,55] [5,10,12,47,11405,11406,15705,15706])
 (.cond (.t 55) (.seq (.aj [QL 56 7 5,Q 57 (.call 155 [.t 56] [] [(5,15705),(6,15706)]),Qs 7 10 57,Qb 11 false] [10,11] [10,47,11405,11406,15705,15706])
 (.ret)) (.skip)))
 (.seq (.aj [QL 58 7 12,Qs 7 10 58,Qb 11 true] [10,11] [10,47,11405,11406,15705,15706])
 (.ret)))))))
def eC.m:Fn:={np:=5,body:=eC.b,res:=[.cell 10 true 7,.tmp 11]}
def eC.k(M:Nat→Option Body):Prop:=M 70=some (.code eC.m)∧cJ.k M∧bI.k M∧fV.k M∧cA.k M∧aL.k M∧gv.k M
def jv.b:C:= .seq (.aj [Q 4 (.nil 1)] [0,1] [])
 (.seq (.aj [Qm 6 0,Q 7 (.call 134 [.t 6] [] [(0,10700)]),Qm 8 1,Q 9 (.bL 1 1 [.int .i64 0] [(0,.t 8)]),Q 10 (.app 1 8 (.t 7) (.t 9)),Qm 5 10] [5] [10,10700])
 (.seq (.aj [Qm 11 5,Q 12 (.call 135 [.t 11] [0] [])] [5] [10,10700])
 (.seq (.aj [Qm 13 5,Q 14 (.call 136 [.t 13] [0] [(0,11400)]),Qm 4 14] [4] [4,10,10700,11400])
 (.ret))))
def jv.m:Fn:={np:=2,body:=jv.b,res:=[.tmp 4]}
def jv.k(M:Nat→Option Body):Prop:=M 163=some (.code jv.m)∧fj.k M∧M 135=some (.ext uV)∧M 136=some (.ext oD)
def a_.b:C:= .seq (.aj [Q 6 (.nil 4)] [0,1,2] [0,26])
 (.seq (.aj [Qm 8 0,Qm 9 1,Qm 10 2,Qm 11 0,Q 12 (.len (.t 11)),Q 13 (.vU 4 (.t 8) (some (.t 9)) (some (.t 10)) (some (.t 12)))] [0,1,2] [0,26])
 (.seq (.seq (.aj [Qm 14 1,Qm 15 2,Q 16 (.bin .eql (.t 14) (.t 15))] [0,1,2,16] [0,26])
 (.cond (.t 16) (.seq (.aj [Qm 17 0,Qm 6 17] [6] [0,6,26])
 (.ret)) (.skip)))
 (.seq (.aj [Qm 18 0,Q 19 (.len (.t 18)),Qm 7 19] [0,1,2,7] [0,26])
 (.seq (.gf [Qm 20 0,Qm 21 1,Q 22 (.vU 4 (.t 20) none (some (.t 21)) none),Qm 23 0,Qm 24 2,Q 25 (.vU 4 (.t 23) (some (.t 24)) none none),Q 26 (.yj 4 56 (.t 22) (.t 25)),Qm 0 26] [[],[],[0,1],[],[],[3,4],lr 6,lr 7] [0,7] [0,26])
 (.seq (.aj [Qm 27 0,Qm 28 0,Q 29 (.len (.t 28)),Qm 30 7,Q 31 (.x8 4 (.t 27) (some (.t 29)) (some (.t 30))),Qn (.EU [.int .i64 0,.int .i64 0,.aO 3,.str ⟨#[]⟩] (.t 31))] [0] [0,26])
 (.seq (.aj [Qm 32 0,Qm 6 32] [6] [0,6,26])
 (.ret)))))))
def a_.m:Fn:={np:=3,body:=a_.b,res:=[.tmp 6]}
def a_.k(M:Nat→Option Body):Prop:=M 162=some (.code a_.m)
def fW.b:C:= .seq (.aj [Qv 2 0,Q 4 (.alloc [.int .i64 0,.str ⟨#[]⟩,.int .i64 0,.int .i64 0,.int .i64 0,.aO 4,.aO 1]),Qb 5 false] [1,2,4] [2,4,10905,10906,13200,13700])
 (.seq (.aj [QL 8 7 2,Q 9 (.call 155 [.t 8] [] [(5,10905),(6,10906)]),Q 6 (.alloc [.int .i64 0,.str ⟨#[]⟩,.int .i64 0,.int .i64 0,.int .i64 0,.aO 4,.aO 1]),Qs 7 6 9] [1,2,4,6] [2,4,6,10905,10906,13200,13700])
 (.seq (.aj [QL 10 7 2,Qm 11 1,Q 12 (.call 72 [.t 10,.t 11] [] []),Qm 7 12] [1,2,4,6,7] [2,4,6,10905,10906,13200,13700])
 (.seq (.seq (.aj [QL 13 7 2,Q 14 (.call 74 [.t 13] [] []),Q 15 (.not (.t 14)),Qm 16 15,Qg 17 (.mv (.t 7)) 16 false,Qg 18 (.bin .lss (.t 17) (kI 0)) 16 false,
   Q 19 (.pick (.t 16) (kB true) (.t 18)),Qm 20 19,Qg 21 (.bK 6 (.t 2)) 20 false,Qg 22 (.load false 1 (.t 21)) 20 false,Qg 23 (.len (.t 22)) 20 false,
   Qg 24 (.bin .eql (.t 23) (kI 40)) 20 false,Q 25 (.pick (.t 20) (kB true) (.t 24))] [1,2,4,6,7,25] [2,4,6,10905,10906,13200,13700])
 (.cond (.t 25) (.seq (.aj [QL 26 7 6,Qs 7 4 26,Qb 5 false] [4,5] [4,10905,10906,13200,13700])
 (.ret)) (.skip)))
 (.seq (.aj [Qf 27 5 6,Ql 28 27,Qm 29 7,Qm 30 7,Q 31 (.bin .add (.t 30) (kI 1)),Q 32 (.call 162 [.t 28,.t 29,.t 31] [0] [(0,13200)]),Qf 33 5 6,Qs 1 33 32] [1,2,4,6] [2,4,6,10905,10906,13200,13700])
 (.seq (.aj [Qf 34 6 2,Ql 35 34,Qm 36 1,Q 37 (.call 163 [.t 35,.t 36] [] [(0,13700)]),Qf 38 6 6,Qs 1 38 37] [4,6] [4,6,10905,10906,13200,13700])
 (.seq (.aj [QL 39 7 6,Qs 7 4 39,Qb 5 true] [4,5] [4,10905,10906,13200,13700])
 (.ret)))))))
def fW.m:Fn:={np:=2,body:=fW.b,res:=[.cell 4 true 7,.tmp 5]}
def fW.k(M:Nat→Option Body):Prop:=M 73=some (.code fW.m)∧cJ.k M∧bI.k M∧cA.k M∧a_.k M∧jv.k M
def gm.b:C:= .seq (.aj [Qv 2 0,Qv 3 1,Qb 4 false] [2,3] [2,3])
 (.seq (.aj [Qf 5 0 2,Ql 6 5,Qf 7 0 3,Ql 8 7,Q 9 (.bin .gtr (.t 6) (.t 8)),Qm 10 9,Qg 11 (.bK 0 (.t 2)) 10 false,Qg 12 (.load false 1 (.t 11)) 10 false,
   Qg 13 (.bK 0 (.t 3)) 10 false,Qg 14 (.load false 1 (.t 13)) 10 false,Qg 15 (.bin .eql (.t 12) (.t 14)) 10 false,Qg 16 (.mv (.t 15)) 10 false,Qg 17 (.bK 1 (.t 2)) 16 true,
   Qg 18 (.load false 1 (.t 17)) 16 true,Qg 19 (.bK 1 (.t 3)) 16 true,Qg 20 (.load false 1 (.t 19)) 16 true,Qg 21 (.bin .gtr (.t 18) (.t 20)) 16 true,
   Qg 22 (.pick (.t 16) (.t 21) (kB false)) 10 false,Q 23 (.pick (.t 10) (kB true) (.t 22)),Qm 4 23] [4] [])
 (.ret))
def gm.m:Fn:={np:=2,body:=gm.b,res:=[.tmp 4]}
def gm.k(M:Nat→Option Body):Prop:=M 275=some (.code gm.m)
def je.b:C:= .seq (.aj [Qv 3 0,Qv 5 2,Q 6 (.alloc [.int .i64 0,.int .i64 0,.int .i64 0])] [1,3,5,6] [3,5,6])
 (.seq (.aj [Qm 8 1,QL 9 2 5,Q 10 (.build [.int .i64 0,.int .i64 0,.int .i64 0] [(0,1,.t 8),(1,2,.t 9)]),Q 7 (.alloc [.int .i64 0,.int .i64 0,.int .i64 0]),Qs 3 7 10] [3,5,6,7] [3,5,6,7])
 (.seq (.seq (.aj [QL 11 2 5,Qf 12 1 3,QL 13 2 12,Q 14 (.call 275 [.t 11,.t 13] [] []),Q 15 (.not (.t 14)),Qm 16 15,Qg 17 (.load true 3 (.t 7)) 16 false,
   Qg 18 (.call 272 [.t 17] [] []) 16 false,Qg 19 (.not (.t 18)) 16 false,Q 20 (.pick (.t 16) (kB true) (.t 19))] [3,6,7,20] [3,6,7])
 (.cond (.t 20) (.seq (.aj [QL 21 3 3,Qs 3 6 21] [6] [6])
 (.ret)) (.skip)))
 (.seq (.aj [QL 22 3 7,Qs 3 6 22] [6] [6])
 (.ret))))
def je.m:Fn:={np:=3,body:=je.b,res:=[.cell 6 true 3]}
def je.k(M:Nat→Option Body):Prop:=M 240=some (.code je.m)∧jd.k M∧gm.k M
def cP.l0:C:= .seq (.aj [Q 25 (.bin .lss (.t 24) (.t 23))] [1,5,7,22,23,24,25] [5,11200])
 (.seq (.cond (.t 25) (.skip) (.exit 0))
 (.seq (.block 1 (.seq (.aj [Qm 26 24,Qa 27 3 22 24,QL 28 3 27,Q 9 (.alloc [.int .i64 0,.int .i64 0,.int .i64 0]),Qm 8 26,Qs 3 9 28] [1,5,7,8,9,22,23,24] [5,9,11200])
 (.seq (.aj [Qm 29 1,Qm 30 8,Q 31 (.bin .shr (.t 29) (.t 30)),Q 32 (.bin .and (.t 31) (kI 1)),Qm 10 32] [1,5,7,8,9,10,22,23,24] [5,9,11200])
 (.seq (.aj [Qf 33 0 9,Ql 34 33,Qm 35 10,Q 36 (.bin .neq (.t 34) (.t 35))] [1,5,7,8,9,10,22,23,24,36] [5,9,11200])
 (.cond (.t 36) (.aj [Qm 37 7,Qm 38 8,QL 39 3 9,Qm 40 10,QL 41 2 5,Q 42 (.call 240 [.t 39,.t 40,.t 41] [] []),Qa 43 3 37 38,Qs 3 43 42] [1,5,7,22,23,24] [5,11200]) (.skip))))))
 (.aj [Q 44 (.bin .add (.t 24) (kI 1)),Qm 24 44] [1,5,7,22,23,24] [5,11200])))
def cP.b:C:= .seq (.aj [Qv 5 2,Q 6 (.nil 3)] [0,1,5] [5])
 (.seq (.aj [Qm 11 0,Q 12 (.call 239 [.t 11] [] [(0,11200)]),Qm 7 12] [0,1,5,7] [5,11200])
 (.seq (.seq (.aj [Qm 13 0,Q 14 (.call 235 [.t 13] [] []),Q 15 (.not (.t 14)),Qm 16 15,Qg 17 (.mv (.t 1)) 16 false,Qg 18 (.call 148 [.t 17] [] []) 16 false,Qg 19 (.not (.t 18)) 16 false,
   Q 20 (.pick (.t 16) (kB true) (.t 19))] [1,5,7,20] [5,11200])
 (.cond (.t 20) (.seq (.aj [Qm 21 7,Qm 6 21] [6] [6,11200])
 (.ret)) (.skip)))
 (.seq (.seq (.aj [Qm 22 7,Q 23 (.len (.t 22)),Qi 24 0] [1,5,7,22,23,24] [5,11200])
 (.block 0 (.loop cP.l0)))
 (.seq (.aj [Qm 45 7,Qm 6 45] [6] [6,11200])
 (.ret)))))
def cP.m:Fn:={np:=3,body:=cP.b,res:=[.tmp 6]}
def cP.k(M:Nat→Option Body):Prop:=M 182=some (.code cP.m)∧fV.k M∧dL.k M∧gM.k M∧je.k M
def dR.b:C:= .seq (.aj [Qv 4 0,Qv 7 3,Q 8 (.alloc [.int .i64 0,.str ⟨#[]⟩,.int .i64 0,.int .i64 0,.int .i64 0,.aO 4,.aO 1]),Qb 9 false] [1,2,4,7,8] [4,7,8,11305,11306])
 (.seq (.aj [QL 12 7 4,Q 13 (.call 155 [.t 12] [] [(5,11305),(6,11306)]),Q 10 (.alloc [.int .i64 0,.str ⟨#[]⟩,.int .i64 0,.int .i64 0,.int .i64 0,.aO 4,.aO 1]),Qs 7 10 13] [1,2,4,7,8,10] [4,7,8,10,11305,11306])
 (.seq (.aj [QL 14 7 4,Qm 15 1,Q 16 (.call 72 [.t 14,.t 15] [] []),Qm 11 16] [2,4,7,8,10,11] [4,7,8,10,11305,11306])
 (.seq (.seq (.aj [QL 17 7 4,Q 18 (.call 74 [.t 17] [] []),Q 19 (.not (.t 18)),Qm 20 19,Qg 21 (.mv (.t 11)) 20 false,Qg 22 (.bin .lss (.t 21) (kI 0)) 20 false,
   Q 23 (.pick (.t 20) (kB true) (.t 22)),Qm 24 23,Qg 25 (.mv (.t 2)) 24 false,Qg 26 (.call 148 [.t 25] [] []) 24 false,Qg 27 (.not (.t 26)) 24 false,
   Q 28 (.pick (.t 24) (kB true) (.t 27)),Qm 29 28,Qg 30 (.load true 2 (.t 7)) 29 false,Qg 31 (.call 164 [.t 30] [] []) 29 false,Qg 32 (.not (.t 31)) 29 false,
   Q 33 (.pick (.t 29) (kB true) (.t 32))] [2,4,7,8,10,11,33] [4,7,8,10,11305,11306])
 (.cond (.t 33) (.seq (.aj [QL 34 7 10,Qs 7 8 34,Qb 9 false] [8,9] [8,11305,11306])
 (.ret)) (.skip)))
 (.seq (.gf [Qf 35 5 10,Ql 36 35,Qm 37 11,Qf 38 5 4,Ql 39 38,Qm 40 11,Qa 41 4 39 40,Qf 42 2 41,Ql 43 42,Qm 44 2,QL 45 2 7,Q 46 (.call 182 [.t 43,.t 44,.t 45] [] []),Qa 47 4 36 37,
   Qf 48 2 47,Qs 1 48 46] [[],[0],[],[],[3],[],[3,4,5],[3,4,5,6],[3,4,5,6,7],[],[],[3,4,5,6,7,8,9,10],lr 12,lr 13,lr 14] [8,10] [8,10,11305,11306])
 (.seq (.aj [QL 49 7 10,Qs 7 8 49,Qb 9 true] [8,9] [8,11305,11306])
 (.ret))))))
def dR.m:Fn:={np:=4,body:=dR.b,res:=[.cell 8 true 7,.tmp 9]}
def dR.k(M:Nat→Option Body):Prop:=M 83=some (.code dR.m)∧cJ.k M∧bI.k M∧fV.k M∧cA.k M∧gJ.k M∧cP.k M
def h_.b:C:= .seq (.aj [Q 2 (.nil 3)] [0] [])
 (.seq (.aj [Q 3 (.bL 3 0 [.int .i64 0,.int .i64 0,.int .i64 0] []),Qm 4 0,Q 5 (.app 3 24 (.t 3) (.t 4)),Qm 2 5] [2] [2,3,5])
 (.ret))
def h_.m:Fn:={np:=1,body:=h_.b,res:=[.tmp 2]}
def h_.k(M:Nat→Option Body):Prop:=M 241=some (.code h_.m)
def fU.b:C:= .seq (.aj [Qv 1 0,Q 2 (.alloc [.int .i64 0,.int .i64 0,.aO 3,.str ⟨#[]⟩])] [1,2] [1,2,10500])
 (.seq (.aj [Qf 3 2 1,Ql 4 3,Q 5 (.call 241 [.t 4] [] [(0,10500)]),Qf 6 2 1,Qs 1 6 5] [1,2] [1,2,10500])
 (.seq (.aj [QL 7 4 1,Qs 4 2 7] [2] [2,10500])
 (.ret)))
def fU.m:Fn:={np:=1,body:=fU.b,res:=[.cell 2 true 4]}
def fU.k(M:Nat→Option Body):Prop:=M 238=some (.code fU.m)∧h_.k M
def b5.l0:C:= .seq (.seq (.aj [Qm 8 4,Qf 9 5 1,Ql 10 9,Q 11 (.len (.t 10)),Q 12 (.bin .lss (.t 8) (.t 11))] [1,2,3,4,12] [1,2,3,6,24,26,29])
 (.cond (.t 12) (.skip) (.exit 0)))
 (.seq (.block 1 (.gf [Qf 15 5 3,Ql 16 15,Qf 17 5 1,Ql 18 17,Qm 19 4,Qa 20 4 18 19,QL 21 4 20,Q 22 (.call 238 [.t 21] [] []),
   Q 23 (.bL 4 1 [.int .i64 0,.int .i64 0,.aO 3,.str ⟨#[]⟩] [(0,.t 22)]),Q 24 (.app 4 56 (.t 16) (.t 23)),Qf 25 5 3,Qs 1 25 24] [[],[0],[],[2],[],[2,3,4],[2,3,4,5],[2,3,4,5,6],[2,3,4,5,6,7],lr 9,lr 10,lr 11] [1,2,3,4] [1,2,3,6,24,26,29]))
 (.aj [Qm 13 4,Q 14 (.bin .add (.t 13) (kI 1)),Qm 4 14] [1,2,3,4] [1,2,3,6,24,26,29]))
def b5.b:C:= .seq (.aj [Qv 1 0,Q 2 (.alloc [.int .i64 0,.str ⟨#[]⟩,.int .i64 0,.int .i64 0,.int .i64 0,.aO 4,.aO 1])] [1,2] [1,2,6,24,26,29])
 (.seq (.aj [QL 5 7 1,Q 3 (.alloc [.int .i64 0,.str ⟨#[]⟩,.int .i64 0,.int .i64 0,.int .i64 0,.aO 4,.aO 1]),Qs 7 3 5] [1,2,3] [1,2,3,6,24,26,29])
 (.seq (.aj [Q 6 (.bL 4 0 [.int .i64 0,.int .i64 0,.aO 3,.str ⟨#[]⟩] []),Qf 7 5 3,Qs 1 7 6] [1,2,3] [1,2,3,6,24,26,29])
 (.seq (.seq (.aj [Qi 4 0] [1,2,3,4] [1,2,3,6,24,26,29])
 (.block 0 (.loop b5.l0)))
 (.seq (.aj [Q 26 (.bL 1 0 [.int .i64 0] []),Qf 27 6 1,Ql 28 27,Q 29 (.app 1 8 (.t 26) (.t 28)),Qf 30 6 3,Qs 1 30 29] [2,3] [2,3,6,24,26,29])
 (.seq (.aj [QL 31 7 3,Qs 7 2 31] [2] [2,6,24,26,29])
 (.ret))))))
def b5.m:Fn:={np:=1,body:=b5.b,res:=[.cell 2 true 7]}
def b5.k(M:Nat→Option Body):Prop:=M 180=some (.code b5.m)∧fU.k M
def gr.l0:C:= .seq (.seq (.aj [Qm 9 6,Q 10 (.bin .lss (.t 9) (kI 3))] [0,3,5,6,10] [3,8,24])
 (.cond (.t 10) (.skip) (.exit 0)))
 (.seq (.block 1 (.seq (.aj [Qi 7 0] [0,3,5,6,7] [3,8,24])
 (.seq (.seq (.aj [Qm 13 0,Qm 14 6,Q 15 (.q9 .u64 (.t 14)),Q 16 (.bin .shr (.t 13) (.t 15)),Q 17 (.bin .rem (.t 16) (kI 2)),Q 18 (.bin .neq (.t 17) (kI 0))] [0,3,5,6,7,18] [3,8,24])
 (.cond (.t 18) (.aj [Qi 7 1] [0,3,5,6,7] [3,8,24]) (.skip)))
 (.aj [Qm 19 5,Qm 20 7,QL 21 2 3,Q 22 (.build [.int .i64 0,.int .i64 0,.int .i64 0] [(0,1,.t 20),(1,2,.t 21)]),
   Q 23 (.bL 3 1 [.int .i64 0,.int .i64 0,.int .i64 0] [(0,.t 22)]),Q 24 (.app 3 24 (.t 19) (.t 23)),Qm 5 24] [0,3,5,6] [3,8,24]))))
 (.aj [Qm 11 6,Q 12 (.bin .add (.t 11) (kI 1)),Qm 6 12] [0,3,5,6] [3,8,24]))
def gr.b:C:= .seq (.aj [Qv 3 1,Q 4 (.nil 3)] [0,3] [3])
 (.seq (.aj [Q 8 (.bL 3 0 [.int .i64 0,.int .i64 0,.int .i64 0] []),Qm 5 8] [0,3,5] [3,8,24])
 (.seq (.seq (.aj [Qi 6 0] [0,3,5,6] [3,8,24])
 (.block 0 (.loop gr.l0)))
 (.seq (.aj [Qm 25 5,Qm 4 25] [4] [4,8,24])
 (.ret))))
def gr.m:Fn:={np:=2,body:=gr.b,res:=[.tmp 4]}
def gr.k(M:Nat→Option Body):Prop:=M 181=some (.code gr.m)
def dg.b:C:= .seq (.aj [Qv 5 0,Qv 9 4,Q 10 (.alloc [.int .i64 0,.str ⟨#[]⟩,.int .i64 0,.int .i64 0,.int .i64 0,.aO 4,.aO 1]),Qb 11 false] [1,2,3,5,9,10] [5,9,10,47,11405,11406,15705,15706])
 (.seq (.aj [QL 13 7 5,Q 14 (.call 180 [.t 13] [] [(5,11405),(6,11406)]),Q 12 (.alloc [.int .i64 0,.str ⟨#[]⟩,.int .i64 0,.int .i64 0,.int .i64 0,.aO 4,.aO 1]),Qs 7 12 14] [1,2,3,5,9,10,12] [5,9,10,12,47,11405,11406,15705,15706])
 (.seq (.seq (.aj [QL 15 7 5,Q 16 (.call 88 [.t 15] [] []),Q 17 (.not (.t 16)),Qm 18 17,Qg 19 (.load true 7 (.t 5)) 18 false,Qg 20 (.mv (.t 1)) 18 false,
   Qg 21 (.call 91 [.t 19,.t 20] [] []) 18 false,Qg 22 (.bin .geq (.t 21) (kI 0)) 18 false,Q 23 (.pick (.t 18) (kB true) (.t 22)),Qm 24 23,Qg 25 (.bK 6 (.t 5)) 24 false,
   Qg 26 (.load false 1 (.t 25)) 24 false,Qg 27 (.mv (.t 1)) 24 false,Qg 28 (.call 132 [.t 26,.t 27] [] []) 24 false,Q 29 (.pick (.t 24) (kB true) (.t 28)),Qm 30 29,
   Qg 31 (.mv (.t 2)) 30 false,Qg 32 (.call 98 [.t 31,kI 0,kI 7] [] []) 30 false,Qg 33 (.not (.t 32)) 30 false,Q 34 (.pick (.t 30) (kB true) (.t 33))] [1,2,3,5,9,10,12,34] [5,9,10,12,47,11405,11406,15705,15706])
 (.cond (.t 34) (.seq (.aj [QL 35 7 12,Qs 7 10 35,Qb 11 false] [10,11] [10,47,11405,11406,15705,15706])
 (.ret)) (.skip)))
 (.seq (.gf [Qf 36 5 12,Ql 37 36,Qm 38 1,Qf 39 4 5,Ql 40 39,Qm 41 2,QL 42 2 9,Q 43 (.call 181 [.t 41,.t 42] [] []),Qm 44 3,
   Q 45 (.build [.int .i64 0,.int .i64 0,.aO 3,.str ⟨#[]⟩] [(0,1,.t 38),(1,1,.t 40),(2,1,.t 43),(3,1,.t 44)]),
   Q 46 (.bL 4 1 [.int .i64 0,.int .i64 0,.aO 3,.str ⟨#[]⟩] [(0,.t 45)]),Q 47 (.app 4 56 (.t 37) (.t 46)),Qf 48 5 12,Qs 1 48 47] [[],[0],[],[],[3],[],[],[5,6],[],[2,3,4,5,6,7,8],[2,3,4,5,6,7,8,9],lr 11,lr 12,lr 13] [5,10,12] [5,10,12,47,11405,11406,15705,15706])
 (.seq (.aj [Qf 49 4 5,Ql 50 49,Q 51 (.bin .add (.t 50) (kI 1)),Qf 52 4 12,Qs 1 52 51] [5,10,12] [5,10,12,47,11405,11406,15705,15706])
 (.seq (.seq (.aj [QL 53 7 12,Q 54 (.call 88 [.t 53] [] []),Q 55 (.not (.t 54))] [5,10,12,55] [5,10,12,47,11405,11406,15705,15706])
 (.cond (.t 55) (.seq (.aj [QL 56 7 5,Q 57 (.call 180 [.t 56] [] [(5,15705),(6,15706)]),Qs 7 10 57,Qb 11 false] [10,11] [10,47,11405,11406,15705,15706])
 (.ret)) (.skip)))
 (.seq (.aj [QL 58 7 12,Qs 7 10 58,Qb 11 true] [10,11] [10,47,11405,11406,15705,15706])
 (.ret)))))))
def dg.m:Fn:={np:=5,body:=dg.b,res:=[.cell 10 true 7,.tmp 11]}
def dg.k(M:Nat→Option Body):Prop:=M 81=some (.code dg.m)∧bD.k M∧bP.k M∧bY.k M∧bl.k M∧b5.k M∧gr.k M
def iq.b:C:= .seq (.aj [Qv 2 0,Qv 3 1,Qb 4 false] [2,3] [2,3])
 (.seq (.seq (.aj [Qf 5 0 2,Ql 6 5,Qf 7 0 3,Ql 8 7,Q 9 (.bin .neq (.t 6) (.t 8))] [2,3,9] [2,3])
 (.cond (.t 9) (.seq (.aj [Qf 10 0 2,Ql 11 10,Qf 12 0 3,Ql 13 12,Q 14 (.bin .gtr (.t 11) (.t 13)),Qm 4 14] [4] [])
 (.ret)) (.skip)))
 (.seq (.aj [Qf 15 1 2,Ql 16 15,Qf 17 1 3,Ql 18 17,Q 19 (.bin .gtr (.t 16) (.t 18)),Qm 4 19] [4] [])
 (.ret)))
def iq.m:Fn:={np:=2,body:=iq.b,res:=[.tmp 4]}
def iq.k(M:Nat→Option Body):Prop:=M 277=some (.code iq.m)
def jc.b:C:= .seq (.aj [Qv 3 0,Qv 5 2,Q 6 (.alloc [.int .i64 0,.int .i64 0,.int .i64 0])] [1,3,5,6] [3,5,6])
 (.seq (.aj [Qm 8 1,QL 9 2 5,Q 10 (.build [.int .i64 0,.int .i64 0,.int .i64 0] [(0,1,.t 8),(1,2,.t 9)]),Q 7 (.alloc [.int .i64 0,.int .i64 0,.int .i64 0]),Qs 3 7 10] [3,5,6,7] [3,5,6,7])
 (.seq (.seq (.aj [QL 11 2 5,Qf 12 1 3,QL 13 2 12,Q 14 (.call 277 [.t 11,.t 13] [] []),Q 15 (.not (.t 14)),Qm 16 15,Qg 17 (.load true 3 (.t 7)) 16 false,
   Qg 18 (.call 276 [.t 17] [] []) 16 false,Qg 19 (.not (.t 18)) 16 false,Q 20 (.pick (.t 16) (kB true) (.t 19))] [3,6,7,20] [3,6,7])
 (.cond (.t 20) (.seq (.aj [QL 21 3 3,Qs 3 6 21] [6] [6])
 (.ret)) (.skip)))
 (.seq (.aj [QL 22 3 7,Qs 3 6 22] [6] [6])
 (.ret))))
def jc.m:Fn:={np:=3,body:=jc.b,res:=[.cell 6 true 3]}
def jc.k(M:Nat→Option Body):Prop:=M 243=some (.code jc.m)∧ja.k M∧iq.k M
def cO.l0:C:= .seq (.seq (.aj [Qm 21 8,Qm 22 7,Q 23 (.len (.t 22)),Q 24 (.bin .lss (.t 21) (.t 23))] [1,5,7,8,24] [5,11100])
 (.cond (.t 24) (.skip) (.exit 0)))
 (.seq (.block 1 (.seq (.aj [Qm 27 1,Qm 28 8,Q 29 (.q9 .u64 (.t 28)),Q 30 (.bin .shr (.t 27) (.t 29)),Q 31 (.bin .rem (.t 30) (kI 2)),Qm 9 31] [1,5,7,8,9] [5,11100])
 (.seq (.aj [Qm 32 7,Qm 33 8,Qa 34 3 32 33,Qf 35 0 34,Ql 36 35,Qm 37 9,Q 38 (.bin .neq (.t 36) (.t 37))] [1,5,7,8,9,38] [5,11100])
 (.cond (.t 38) (.gf [Qm 39 7,Qm 40 8,Qm 41 7,Qm 42 8,Qa 43 3 41 42,QL 44 3 43,Qm 45 9,QL 46 2 5,Q 47 (.call 243 [.t 44,.t 45,.t 46] [] []),Qa 48 3 39 40,Qs 3 48 47] [[],[],[],[],[2,3],[2,3,4],[],[],[2,3,4,5,6,7],lr 9,lr 10] [1,5,7,8] [5,11100]) (.skip)))))
 (.aj [Qm 25 8,Q 26 (.bin .add (.t 25) (kI 1)),Qm 8 26] [1,5,7,8] [5,11100]))
def cO.b:C:= .seq (.aj [Qv 5 2,Q 6 (.nil 3)] [0,1,5] [5])
 (.seq (.aj [Qm 10 0,Q 11 (.call 241 [.t 10] [] [(0,11100)]),Qm 7 11] [0,1,5,7] [5,11100])
 (.seq (.seq (.aj [Qm 12 0,Q 13 (.call 242 [.t 12] [] []),Q 14 (.not (.t 13)),Qm 15 14,Qg 16 (.mv (.t 1)) 15 false,Qg 17 (.call 98 [.t 16,kI 0,kI 7] [] []) 15 false,
   Qg 18 (.not (.t 17)) 15 false,Q 19 (.pick (.t 15) (kB true) (.t 18))] [1,5,7,19] [5,11100])
 (.cond (.t 19) (.seq (.aj [Qm 20 7,Qm 6 20] [6] [6,11100])
 (.ret)) (.skip)))
 (.seq (.seq (.aj [Qi 8 0] [1,5,7,8] [5,11100])
 (.block 0 (.loop cO.l0)))
 (.seq (.aj [Qm 49 7,Qm 6 49] [6] [6,11100])
 (.ret)))))
def cO.m:Fn:={np:=3,body:=cO.b,res:=[.tmp 6]}
def cO.k(M:Nat→Option Body):Prop:=M 184=some (.code cO.m)∧bY.k M∧h_.k M∧dJ.k M∧jc.k M
def de.b:C:= .seq (.aj [Qv 4 0,Qv 7 3,Q 8 (.alloc [.int .i64 0,.str ⟨#[]⟩,.int .i64 0,.int .i64 0,.int .i64 0,.aO 4,.aO 1]),Qb 9 false] [1,2,4,7,8] [4,7,8,11305,11306])
 (.seq (.aj [QL 12 7 4,Q 13 (.call 180 [.t 12] [] [(5,11305),(6,11306)]),Q 10 (.alloc [.int .i64 0,.str ⟨#[]⟩,.int .i64 0,.int .i64 0,.int .i64 0,.aO 4,.aO 1]),Qs 7 10 13] [1,2,4,7,8,10] [4,7,8,10,11305,11306])
 (.seq (.aj [QL 14 7 4,Qm 15 1,Q 16 (.call 91 [.t 14,.t 15] [] []),Qm 11 16] [2,4,7,8,10,11] [4,7,8,10,11305,11306])
 (.seq (.seq (.aj [QL 17 7 4,Q 18 (.call 88 [.t 17] [] []),Q 19 (.not (.t 18)),Qm 20 19,Qg 21 (.mv (.t 11)) 20 false,Qg 22 (.bin .lss (.t 21) (kI 0)) 20 false,
   Q 23 (.pick (.t 20) (kB true) (.t 22)),Qm 24 23,Qg 25 (.mv (.t 2)) 24 false,Qg 26 (.call 98 [.t 25,kI 0,kI 7] [] []) 24 false,Qg 27 (.not (.t 26)) 24 false,
   Q 28 (.pick (.t 24) (kB true) (.t 27)),Qm 29 28,Qg 30 (.load true 2 (.t 7)) 29 false,Qg 31 (.call 183 [.t 30] [] []) 29 false,Qg 32 (.not (.t 31)) 29 false,
   Q 33 (.pick (.t 29) (kB true) (.t 32))] [2,4,7,8,10,11,33] [4,7,8,10,11305,11306])
 (.cond (.t 33) (.seq (.aj [QL 34 7 10,Qs 7 8 34,Qb 9 false] [8,9] [8,11305,11306])
 (.ret)) (.skip)))
 (.seq (.gf [Qf 35 5 10,Ql 36 35,Qm 37 11,Qf 38 5 4,Ql 39 38,Qm 40 11,Qa 41 4 39 40,Qf 42 2 41,Ql 43 42,Qm 44 2,QL 45 2 7,Q 46 (.call 184 [.t 43,.t 44,.t 45] [] []),Qa 47 4 36 37,
   Qf 48 2 47,Qs 1 48 46] [[],[0],[],[],[3],[],[3,4,5],[3,4,5,6],[3,4,5,6,7],[],[],[3,4,5,6,7,8,9,10],lr 12,lr 13,lr 14] [8,10] [8,10,11305,11306])
 (.seq (.aj [QL 49 7 10,Qs 7 8 49,Qb 9 true] [8,9] [8,11305,11306])
 (.ret))))))
def de.m:Fn:={np:=4,body:=de.b,res:=[.cell 8 true 7,.tmp 9]}
def de.k(M:Nat→Option Body):Prop:=M 84=some (.code de.m)∧bD.k M∧bP.k M∧bY.k M∧b5.k M∧gH.k M∧cO.k M
def cS.b:C:= .seq (.aj [Qv 2 0,Q 4 (.alloc [.int .i64 0,.str ⟨#[]⟩,.int .i64 0,.int .i64 0,.int .i64 0,.aO 4,.aO 1]),Qb 5 false] [1,2,4] [2,4,27,32,38,10905,10906,14300])
 (.seq (.aj [QL 8 7 2,Q 9 (.call 180 [.t 8] [] [(5,10905),(6,10906)]),Q 6 (.alloc [.int .i64 0,.str ⟨#[]⟩,.int .i64 0,.int .i64 0,.int .i64 0,.aO 4,.aO 1]),Qs 7 6 9] [1,2,4,6] [2,4,6,27,32,38,10905,10906,14300])
 (.seq (.aj [QL 10 7 2,Qm 11 1,Q 12 (.call 91 [.t 10,.t 11] [] []),Qm 7 12] [1,2,4,6,7] [2,4,6,27,32,38,10905,10906,14300])
 (.seq (.seq (.aj [QL 13 7 2,Q 14 (.call 88 [.t 13] [] []),Q 15 (.not (.t 14)),Qm 16 15,Qg 17 (.mv (.t 7)) 16 false,Qg 18 (.bin .lss (.t 17) (kI 0)) 16 false,
   Q 19 (.pick (.t 16) (kB true) (.t 18)),Qm 20 19,Qg 21 (.bK 6 (.t 2)) 20 false,Qg 22 (.load false 1 (.t 21)) 20 false,Qg 23 (.len (.t 22)) 20 false,
   Qg 24 (.bin .geq (.t 23) (kI 40)) 20 false,Q 25 (.pick (.t 20) (kB true) (.t 24))] [1,2,4,6,7,25] [2,4,6,27,32,38,10905,10906,14300])
 (.cond (.t 25) (.seq (.aj [QL 26 7 6,Qs 7 4 26,Qb 5 false] [4,5] [4,27,32,38,10905,10906,14300])
 (.ret)) (.skip)))
 (.seq (.gf [Q 27 (.bL 4 0 [.int .i64 0,.int .i64 0,.aO 3,.str ⟨#[]⟩] []),Qf 28 5 6,Ql 29 28,Qm 30 7,Q 31 (.vU 4 (.t 29) none (some (.t 30)) none),
   Q 32 (.app 4 56 (.t 27) (.t 31)),Qf 33 5 6,Ql 34 33,Qm 35 7,Q 36 (.bin .add (.t 35) (kI 1)),Q 37 (.vU 4 (.t 34) (some (.t 36)) none none),Q 38 (.app 4 56 (.t 32) (.t 37)),
   Qf 39 5 6,Qs 1 39 38] [[],[],[1],[],[1,2,3],lr 5,[],[6],[],[8],[6,7,8,9],lr 11,lr 12,lr 13] [1,2,4,6] [2,4,6,27,32,38,10905,10906,14300])
 (.seq (.aj [Qf 40 6 2,Ql 41 40,Qm 42 1,Q 43 (.call 133 [.t 41,.t 42] [] [(0,14300)]),Qf 44 6 6,Qs 1 44 43] [4,6] [4,6,27,32,38,10905,10906,14300])
 (.seq (.aj [QL 45 7 6,Qs 7 4 45,Qb 5 true] [4,5] [4,27,32,38,10905,10906,14300])
 (.ret)))))))
def cS.m:Fn:={np:=2,body:=cS.b,res:=[.cell 4 true 7,.tmp 5]}
def cS.k(M:Nat→Option Body):Prop:=M 86=some (.code cS.m)∧bD.k M∧bP.k M∧b7.k M∧b5.k M
def dA.l0:C:= .seq (.seq (.aj [Qm 6 5,Qf 7 2 2,Ql 8 7,Q 9 (.len (.t 8)),Q 10 (.bin .lss (.t 6) (.t 9))] [1,2,5,10] [2])
 (.cond (.t 10) (.skip) (.exit 0)))
 (.seq (.block 1 (.seq (.aj [Qf 13 2 2,Ql 14 13,Qm 15 5,Qa 16 7 14 15,Qf 17 0 16,Ql 18 17,Qm 19 1,Q 20 (.bin .eql (.t 18) (.t 19))] [1,2,5,20] [2])
 (.cond (.t 20) (.seq (.aj [Qm 21 5,Qm 4 21] [4] [])
 (.ret)) (.skip))))
 (.aj [Qm 11 5,Q 12 (.bin .add (.t 11) (kI 1)),Qm 5 12] [1,2,5] [2]))
def dA.b:C:= .seq (.aj [Qv 2 0,Qi 4 0] [1,2] [2])
 (.seq (.seq (.aj [Qi 5 0] [1,2,5] [2])
 (.block 0 (.loop dA.l0)))
 (.seq (.aj [Qi 4 (-1)] [4] [])
 (.ret)))
def dA.m:Fn:={np:=2,body:=dA.b,res:=[.tmp 4]}
def dA.k(M:Nat→Option Body):Prop:=M 196=some (.code dA.m)
def eX.l0:C:= .seq (.seq (.aj [Qm 16 5,Qf 17 2 2,Ql 18 17,Q 19 (.len (.t 18)),Q 20 (.bin .lss (.t 16) (.t 19))] [1,2,5,20] [2])
 (.cond (.t 20) (.skip) (.exit 0)))
 (.seq (.block 1 (.seq (.aj [Qf 23 2 2,Ql 24 23,Qm 25 5,Qa 26 7 24 25,QL 27 7 26,Qm 28 1,Q 29 (.call 91 [.t 27,.t 28] [] []),Q 30 (.bin .geq (.t 29) (kI 0)),Qm 31 30,Qg 32 (.bK 2 (.t 2)) 31 false,
   Qg 33 (.load false 1 (.t 32)) 31 false,Qg 34 (.mv (.t 5)) 31 false,Qg 35 (.lg 7 (.t 33) (.t 34)) 31 false,Qg 36 (.bK 6 (.t 35)) 31 false,
   Qg 37 (.load false 1 (.t 36)) 31 false,Qg 38 (.mv (.t 1)) 31 false,Qg 39 (.call 132 [.t 37,.t 38] [] []) 31 false,Q 40 (.pick (.t 31) (kB true) (.t 39))] [1,2,5,40] [2])
 (.cond (.t 40) (.seq (.aj [Qb 4 true] [4] [])
 (.ret)) (.skip))))
 (.aj [Qm 21 5,Q 22 (.bin .add (.t 21) (kI 1)),Qm 5 22] [1,2,5] [2]))
def eX.b:C:= .seq (.aj [Qv 2 0,Qb 4 false] [1,2] [2])
 (.seq (.seq (.aj [QL 6 4 2,Qm 7 1,Q 8 (.call 196 [.t 6,.t 7] [] []),Q 9 (.bin .geq (.t 8) (kI 0)),Qm 10 9,Qg 11 (.bK 3 (.t 2)) 10 false,Qg 12 (.load false 1 (.t 11)) 10 false,
   Qg 13 (.mv (.t 1)) 10 false,Qg 14 (.call 132 [.t 12,.t 13] [] []) 10 false,Q 15 (.pick (.t 10) (kB true) (.t 14))] [1,2,15] [2])
 (.cond (.t 15) (.seq (.aj [Qb 4 true] [4] [])
 (.ret)) (.skip)))
 (.seq (.seq (.aj [Qi 5 0] [1,2,5] [2])
 (.block 0 (.loop eX.l0)))
 (.seq (.aj [Qb 4 false] [4] [])
 (.ret))))
def eX.m:Fn:={np:=2,body:=eX.b,res:=[.tmp 4]}
def eX.k(M:Nat→Option Body):Prop:=M 300=some (.code eX.m)∧bP.k M∧bl.k M∧dA.k M
def dV.b:C:= .seq (.aj [Qv 1 0,Q 2 (.alloc [.int .i64 0,.int .i64 0])] [1,2] [1,2])
 (.seq (.aj [Qf 3 1 1,Ql 4 3,Q 5 (.bin .add (.t 4) (kI 1)),Qf 6 0 1,Ql 7 6,Q 8 (.build [.int .i64 0,.int .i64 0] [(0,1,.t 5),(1,1,.t 7)]),Qs 2 2 8] [2] [2])
 (.ret))
def dV.m:Fn:={np:=1,body:=dV.b,res:=[.cell 2 true 2]}
def dV.k(M:Nat→Option Body):Prop:=M 301=some (.code dV.m)
def cd.l0:C:= .seq (.seq (.aj [Qm 8 4,Qf 9 2 1,Ql 10 9,Q 11 (.len (.t 10)),Q 12 (.bin .lss (.t 8) (.t 11))] [1,2,3,4,12] [1,2,3,6,24,26,29])
 (.cond (.t 12) (.skip) (.exit 0)))
 (.seq (.block 1 (.gf [Qf 15 2 3,Ql 16 15,Qf 17 2 1,Ql 18 17,Qm 19 4,Qa 20 7 18 19,QL 21 7 20,Q 22 (.call 180 [.t 21] [] []),
   Q 23 (.bL 7 1 [.int .i64 0,.str ⟨#[]⟩,.int .i64 0,.int .i64 0,.int .i64 0,.aO 4,.aO 1] [(0,.t 22)]),Q 24 (.app 7 96 (.t 16) (.t 23)),Qf 25 2 3,Qs 1 25 24] [[],[0],[],[2],[],[2,3,4],[2,3,4,5],[2,3,4,5,6],[2,3,4,5,6,7],lr 9,lr 10,lr 11] [1,2,3,4] [1,2,3,6,24,26,29]))
 (.aj [Qm 13 4,Q 14 (.bin .add (.t 13) (kI 1)),Qm 4 14] [1,2,3,4] [1,2,3,6,24,26,29]))
def cd.b:C:= .seq (.aj [Qv 1 0,Q 2 (.alloc [.int .i64 0,.int .i64 0,.aO 7,.aO 1])] [1,2] [1,2,6,24,26,29])
 (.seq (.aj [QL 5 4 1,Q 3 (.alloc [.int .i64 0,.int .i64 0,.aO 7,.aO 1]),Qs 4 3 5] [1,2,3] [1,2,3,6,24,26,29])
 (.seq (.aj [Q 6 (.bL 7 0 [.int .i64 0,.str ⟨#[]⟩,.int .i64 0,.int .i64 0,.int .i64 0,.aO 4,.aO 1] []),Qf 7 2 3,Qs 1 7 6] [1,2,3] [1,2,3,6,24,26,29])
 (.seq (.seq (.aj [Qi 4 0] [1,2,3,4] [1,2,3,6,24,26,29])
 (.block 0 (.loop cd.l0)))
 (.seq (.aj [Q 26 (.bL 1 0 [.int .i64 0] []),Qf 27 3 1,Ql 28 27,Q 29 (.app 1 8 (.t 26) (.t 28)),Qf 30 3 3,Qs 1 30 29] [2,3] [2,3,6,24,26,29])
 (.seq (.aj [QL 31 4 3,Qs 4 2 31] [2] [2,6,24,26,29])
 (.ret))))))
def cd.m:Fn:={np:=1,body:=cd.b,res:=[.cell 2 true 4]}
def cd.k(M:Nat→Option Body):Prop:=M 219=some (.code cd.m)∧b5.k M
def bZ.l0:C:= .seq (.seq (.aj [Qm 37 10,Qf 38 2 3,Ql 39 38,Q 40 (.len (.t 39)),Q 41 (.bin .lss (.t 37) (.t 40))] [1,3,6,8,9,10,41] [3,6,8,9,30,61,67,93,12702,12703,12902,12903,20302,20303])
 (.cond (.t 41) (.skip) (.exit 0)))
 (.seq (.block 1 (.seq (.aj [Qf 44 2 3,Ql 45 44,Qm 46 10,Qa 47 7 45 46,Qf 48 0 47,Ql 49 48,Qm 50 1,Q 51 (.bin .lss (.t 49) (.t 50))] [1,3,6,8,9,10,51] [3,6,8,9,30,61,67,93,12702,12703,12902,12903,20302,20303])
 (.cond (.t 51) (.gf [Qf 52 2 8,Ql 53 52,Qf 54 2 3,Ql 55 54,Qm 56 10,Qa 57 7 55 56,QL 58 7 57,Q 59 (.call 180 [.t 58] [] []),
   Q 60 (.bL 7 1 [.int .i64 0,.str ⟨#[]⟩,.int .i64 0,.int .i64 0,.int .i64 0,.aO 4,.aO 1] [(0,.t 59)]),Q 61 (.app 7 96 (.t 53) (.t 60)),Qf 62 2 8,Qs 1 62 61] [[],[0],[],[2],[],[2,3,4],[2,3,4,5],[2,3,4,5,6],[2,3,4,5,6,7],lr 9,lr 10,lr 11] [1,3,6,8,9,10] [3,6,8,9,30,61,67,93,12702,12703,12902,12903,20302,20303]) (.skip))))
 (.aj [Qm 42 10,Q 43 (.bin .add (.t 42) (kI 1)),Qm 10 43] [1,3,6,8,9,10] [3,6,8,9,30,61,67,93,12702,12703,12902,12903,20302,20303]))
def bZ.l1:C:= .seq (.seq (.aj [Qm 69 11,Qf 70 2 3,Ql 71 70,Q 72 (.len (.t 71)),Q 73 (.bin .lss (.t 69) (.t 72))] [1,3,6,8,11,73] [3,6,8,30,61,67,93,12702,12703,12902,12903,20302,20303])
 (.cond (.t 73) (.skip) (.exit 2)))
 (.seq (.block 3 (.seq (.aj [Qf 76 2 3,Ql 77 76,Qm 78 11,Qa 79 7 77 78,Qf 80 0 79,Ql 81 80,Qm 82 1,Q 83 (.bin .gtr (.t 81) (.t 82))] [1,3,6,8,11,83] [3,6,8,30,61,67,93,12702,12703,12902,12903,20302,20303])
 (.cond (.t 83) (.gf [Qf 84 2 8,Ql 85 84,Qf 86 2 3,Ql 87 86,Qm 88 11,Qa 89 7 87 88,QL 90 7 89,Q 91 (.call 180 [.t 90] [] []),
   Q 92 (.bL 7 1 [.int .i64 0,.str ⟨#[]⟩,.int .i64 0,.int .i64 0,.int .i64 0,.aO 4,.aO 1] [(0,.t 91)]),Q 93 (.app 7 96 (.t 85) (.t 92)),Qf 94 2 8,Qs 1 94 93] [[],[0],[],[2],[],[2,3,4],[2,3,4,5],[2,3,4,5,6],[2,3,4,5,6,7],lr 9,lr 10,lr 11] [1,3,6,8,11] [3,6,8,30,61,67,93,12702,12703,12902,12903,20302,20303]) (.skip))))
 (.aj [Qm 74 11,Q 75 (.bin .add (.t 74) (kI 1)),Qm 11 75] [1,3,6,8,11] [3,6,8,30,61,67,93,12702,12703,12902,12903,20302,20303]))
def bZ.b:C:= .seq (.aj [Qv 3 0,Q 6 (.alloc [.int .i64 0,.int .i64 0,.aO 7,.aO 1]),Qb 7 false] [1,2,3,6] [3,6,30,61,67,93,12702,12703,12902,12903,20302,20303])
 (.seq (.seq (.aj [QL 12 4 3,Q 13 (.call 149 [.t 12] [] []),Q 14 (.not (.t 13)),Qm 15 14,Qg 16 (.load true 4 (.t 3)) 15 false,Qg 17 (.mv (.t 1)) 15 false,
   Qg 18 (.call 300 [.t 16,.t 17] [] []) 15 false,Q 19 (.pick (.t 15) (kB true) (.t 18)),Qm 20 19,Qg 21 (.load true 4 (.t 3)) 20 false,Qg 22 (.mv (.t 2)) 20 false,
   Qg 23 (.call 226 [.t 21,.t 22] [] []) 20 false,Qg 24 (.bin .geq (.t 23) (kI 0)) 20 false,Q 25 (.pick (.t 20) (kB true) (.t 24))] [1,2,3,6,25] [3,6,30,61,67,93,12702,12703,12902,12903,20302,20303])
 (.cond (.t 25) (.seq (.aj [QL 26 4 3,Q 27 (.call 219 [.t 26] [] [(2,12702),(3,12703)]),Qs 4 6 27,Qb 7 false] [6,7] [6,30,61,67,93,12702,12703,12902,12903,20302,20303])
 (.ret)) (.skip)))
 (.seq (.aj [QL 28 4 3,Q 29 (.call 219 [.t 28] [] [(2,12902),(3,12903)]),Q 8 (.alloc [.int .i64 0,.int .i64 0,.aO 7,.aO 1]),Qs 4 8 29] [1,2,3,6,8] [3,6,8,30,61,67,93,12702,12703,12902,12903,20302,20303])
 (.seq (.aj [Q 30 (.bL 7 0 [.int .i64 0,.str ⟨#[]⟩,.int .i64 0,.int .i64 0,.int .i64 0,.aO 4,.aO 1] []),Qf 31 2 8,Qs 1 31 30] [1,2,3,6,8] [3,6,8,30,61,67,93,12702,12703,12902,12903,20302,20303])
 (.seq (.aj [Qm 32 1,Qm 33 2,QL 34 4 3,Q 35 (.call 301 [.t 34] [] []),
   Q 36 (.build [.int .i64 0,.str ⟨#[]⟩,.int .i64 0,.int .i64 0,.int .i64 0,.aO 4,.aO 1] [(0,1,.t 32),(1,1,.t 33),(2,2,.t 35),(4,1,kI 1)]),
   Q 9 (.alloc [.int .i64 0,.str ⟨#[]⟩,.int .i64 0,.int .i64 0,.int .i64 0,.aO 4,.aO 1]),Qs 7 9 36] [1,3,6,8,9] [3,6,8,9,30,61,67,93,12702,12703,12902,12903,20302,20303])
 (.seq (.seq (.aj [Qi 10 0] [1,3,6,8,9,10] [3,6,8,9,30,61,67,93,12702,12703,12902,12903,20302,20303])
 (.block 0 (.loop bZ.l0)))
 (.seq (.aj [Qf 63 2 8,Ql 64 63,QL 65 7 9,Q 66 (.bL 7 1 [.int .i64 0,.str ⟨#[]⟩,.int .i64 0,.int .i64 0,.int .i64 0,.aO 4,.aO 1] [(0,.t 65)]),Q 67 (.app 7 96 (.t 64) (.t 66)),
   Qf 68 2 8,Qs 1 68 67] [1,3,6,8] [3,6,8,30,61,67,93,12702,12703,12902,12903,20302,20303])
 (.seq (.seq (.aj [Qi 11 0] [1,3,6,8,11] [3,6,8,30,61,67,93,12702,12703,12902,12903,20302,20303])
 (.block 2 (.loop bZ.l1)))
 (.seq (.aj [Qf 95 1 3,Ql 96 95,Q 97 (.bin .add (.t 96) (kI 1)),Qf 98 1 8,Qs 1 98 97] [3,6,8] [3,6,8,30,61,67,93,12702,12703,12902,12903,20302,20303])
 (.seq (.seq (.aj [QL 99 4 8,Q 100 (.call 149 [.t 99] [] []),Q 101 (.not (.t 100))] [3,6,8,101] [3,6,8,30,61,67,93,12702,12703,12902,12903,20302,20303])
 (.cond (.t 101) (.seq (.aj [QL 102 4 3,Q 103 (.call 219 [.t 102] [] [(2,20302),(3,20303)]),Qs 4 6 103,Qb 7 false] [6,7] [6,30,61,67,93,12702,12703,12902,12903,20302,20303])
 (.ret)) (.skip)))
 (.seq (.aj [QL 104 4 8,Qs 4 6 104,Qb 7 true] [6,7] [6,30,61,67,93,12702,12703,12902,12903,20302,20303])
 (.ret)))))))))))
def bZ.m:Fn:={np:=3,body:=bZ.b,res:=[.cell 6 true 4,.tmp 7]}
def bZ.k(M:Nat→Option Body):Prop:=M 278=some (.code bZ.m)∧aN.k M∧b5.k M∧cd.k M∧cG.k M∧eX.k M∧dV.k M
def cK.b:C:= .seq (.aj [Qv 3 0,Q 6 (.alloc [.int .i64 0,.int .i64 0,.aO 7,.aO 1]),Qb 7 false] [1,2,3,6] [3,6,11102,11103,15002,15003])
 (.seq (.aj [QL 10 4 3,Q 11 (.call 219 [.t 10] [] [(2,11102),(3,11103)]),Q 8 (.alloc [.int .i64 0,.int .i64 0,.aO 7,.aO 1]),Qs 4 8 11] [1,2,3,6,8] [3,6,8,11102,11103,15002,15003])
 (.seq (.aj [QL 12 4 3,Qm 13 1,Q 14 (.call 196 [.t 12,.t 13] [] []),Qm 9 14] [2,3,6,8,9] [3,6,8,11102,11103,15002,15003])
 (.seq (.seq (.aj [QL 15 4 3,Q 16 (.call 149 [.t 15] [] []),Q 17 (.not (.t 16)),Qm 18 17,Qg 19 (.mv (.t 9)) 18 false,Qg 20 (.bin .lss (.t 19) (kI 0)) 18 false,
   Q 21 (.pick (.t 18) (kB true) (.t 20)),Qm 22 21,Qg 23 (.load true 4 (.t 3)) 22 false,Qg 24 (.mv (.t 2)) 22 false,Qg 25 (.call 226 [.t 23,.t 24] [] []) 22 false,
   Qg 26 (.bin .geq (.t 25) (kI 0)) 22 false,Q 27 (.pick (.t 22) (kB true) (.t 26))] [2,3,6,8,9,27] [3,6,8,11102,11103,15002,15003])
 (.cond (.t 27) (.seq (.aj [QL 28 4 8,Qs 4 6 28,Qb 7 false] [6,7] [6,11102,11103,15002,15003])
 (.ret)) (.skip)))
 (.seq (.aj [Qf 29 2 8,Ql 30 29,Qm 31 9,Qm 32 2,Qa 33 7 30 31,Qf 34 1 33,Qs 1 34 32] [3,6,8,9] [3,6,8,11102,11103,15002,15003])
 (.seq (.gf [Qf 35 2 8,Ql 36 35,Qm 37 9,QL 38 4 3,Q 39 (.call 301 [.t 38] [] []),Qa 40 7 36 37,Qf 41 2 40,Qs 2 41 39] [[],[0],[],[],[3],lr 5,lr 6,lr 7] [3,6,8] [3,6,8,11102,11103,15002,15003])
 (.seq (.aj [Qf 42 1 3,Ql 43 42,Q 44 (.bin .add (.t 43) (kI 1)),Qf 45 1 8,Qs 1 45 44] [3,6,8] [3,6,8,11102,11103,15002,15003])
 (.seq (.seq (.aj [QL 46 4 8,Q 47 (.call 149 [.t 46] [] []),Q 48 (.not (.t 47))] [3,6,8,48] [3,6,8,11102,11103,15002,15003])
 (.cond (.t 48) (.seq (.aj [QL 49 4 3,Q 50 (.call 219 [.t 49] [] [(2,15002),(3,15003)]),Qs 4 6 50,Qb 7 false] [6,7] [6,11102,11103,15002,15003])
 (.ret)) (.skip)))
 (.seq (.aj [QL 51 4 8,Qs 4 6 51,Qb 7 true] [6,7] [6,11102,11103,15002,15003])
 (.ret)))))))))
def cK.m:Fn:={np:=3,body:=cK.b,res:=[.cell 6 true 4,.tmp 7]}
def cK.k(M:Nat→Option Body):Prop:=M 282=some (.code cK.m)∧aN.k M∧dA.k M∧cd.k M∧cG.k M∧dV.k M
def dK.b:C:= .seq (.aj [Qv 2 0,Q 4 (.alloc [.int .i64 0,.int .i64 0,.aO 7,.aO 1]),Qb 5 false] [1,2,4] [2,4,27,32,38,10902,10903,14300])
 (.seq (.aj [QL 8 4 2,Q 9 (.call 219 [.t 8] [] [(2,10902),(3,10903)]),Q 6 (.alloc [.int .i64 0,.int .i64 0,.aO 7,.aO 1]),Qs 4 6 9] [1,2,4,6] [2,4,6,27,32,38,10902,10903,14300])
 (.seq (.aj [QL 10 4 2,Qm 11 1,Q 12 (.call 196 [.t 10,.t 11] [] []),Qm 7 12] [1,2,4,6,7] [2,4,6,27,32,38,10902,10903,14300])
 (.seq (.seq (.aj [QL 13 4 2,Q 14 (.call 149 [.t 13] [] []),Q 15 (.not (.t 14)),Qm 16 15,Qg 17 (.mv (.t 7)) 16 false,Qg 18 (.bin .lss (.t 17) (kI 0)) 16 false,
   Q 19 (.pick (.t 16) (kB true) (.t 18)),Qm 20 19,Qg 21 (.bK 3 (.t 2)) 20 false,Qg 22 (.load false 1 (.t 21)) 20 false,Qg 23 (.len (.t 22)) 20 false,
   Qg 24 (.bin .geq (.t 23) (kI 20)) 20 false,Q 25 (.pick (.t 20) (kB true) (.t 24))] [1,2,4,6,7,25] [2,4,6,27,32,38,10902,10903,14300])
 (.cond (.t 25) (.seq (.aj [QL 26 4 6,Qs 4 4 26,Qb 5 false] [4,5] [4,27,32,38,10902,10903,14300])
 (.ret)) (.skip)))
 (.seq (.gf [Q 27 (.bL 7 0 [.int .i64 0,.str ⟨#[]⟩,.int .i64 0,.int .i64 0,.int .i64 0,.aO 4,.aO 1] []),Qf 28 2 6,Ql 29 28,Qm 30 7,
   Q 31 (.vU 7 (.t 29) none (some (.t 30)) none),Q 32 (.app 7 96 (.t 27) (.t 31)),Qf 33 2 6,Ql 34 33,Qm 35 7,Q 36 (.bin .add (.t 35) (kI 1)),
   Q 37 (.vU 7 (.t 34) (some (.t 36)) none none),Q 38 (.app 7 96 (.t 32) (.t 37)),Qf 39 2 6,Qs 1 39 38] [[],[],[1],[],[1,2,3],lr 5,[],[6],[],[8],[6,7,8,9],lr 11,lr 12,lr 13] [1,2,4,6] [2,4,6,27,32,38,10902,10903,14300])
 (.seq (.aj [Qf 40 3 2,Ql 41 40,Qm 42 1,Q 43 (.call 133 [.t 41,.t 42] [] [(0,14300)]),Qf 44 3 6,Qs 1 44 43] [4,6] [4,6,27,32,38,10902,10903,14300])
 (.seq (.aj [QL 45 4 6,Qs 4 4 45,Qb 5 true] [4,5] [4,27,32,38,10902,10903,14300])
 (.ret)))))))
def dK.m:Fn:={np:=2,body:=dK.b,res:=[.cell 4 true 4,.tmp 5]}
def dK.k(M:Nat→Option Body):Prop:=M 283=some (.code dK.m)∧b7.k M∧aN.k M∧dA.k M∧cd.k M
def eG.b:C:= .seq (.aj [Qv 3 0,Qv 5 2,Q 6 (.alloc [.int .i64 0,.int .i64 0,.aO 7,.aO 1]),Qb 7 false] [1,3,5,6] [3,5,6,11002,11003,12402,12403])
 (.seq (.aj [QL 9 4 3,Q 10 (.call 219 [.t 9] [] [(2,11002),(3,11003)]),Q 8 (.alloc [.int .i64 0,.int .i64 0,.aO 7,.aO 1]),Qs 4 8 10] [1,3,5,6,8] [3,5,6,8,11002,11003,12402,12403])
 (.seq (.aj [Qf 11 2 8,Ql 12 11,Qm 13 1,QL 14 7 5,Qa 15 7 12 13,Qs 7 15 14] [3,6,8] [3,6,8,11002,11003,12402,12403])
 (.seq (.aj [Qf 16 1 3,Ql 17 16,Q 18 (.bin .add (.t 17) (kI 1)),Qf 19 1 8,Qs 1 19 18] [3,6,8] [3,6,8,11002,11003,12402,12403])
 (.seq (.seq (.aj [QL 20 4 8,Q 21 (.call 149 [.t 20] [] []),Q 22 (.not (.t 21))] [3,6,8,22] [3,6,8,11002,11003,12402,12403])
 (.cond (.t 22) (.seq (.aj [QL 23 4 3,Q 24 (.call 219 [.t 23] [] [(2,12402),(3,12403)]),Qs 4 6 24,Qb 7 false] [6,7] [6,11002,11003,12402,12403])
 (.ret)) (.skip)))
 (.seq (.aj [QL 25 4 8,Qs 4 6 25,Qb 7 true] [6,7] [6,11002,11003,12402,12403])
 (.ret))))))
def eG.m:Fn:={np:=3,body:=eG.b,res:=[.cell 6 true 4,.tmp 7]}
def eG.k(M:Nat→Option Body):Prop:=M 302=some (.code eG.m)∧aN.k M∧cd.k M
def dI.b:C:= .seq (.aj [Qv 5 0,Q 10 (.alloc [.int .i64 0,.int .i64 0,.aO 7,.aO 1]),Qb 11 false] [1,2,3,4,5,10] [5,10,13102,13103,14902,14903,15302,15303])
 (.seq (.aj [QL 15 4 5,Qm 16 1,Q 17 (.call 196 [.t 15,.t 16] [] []),Qm 12 17] [2,3,4,5,10,12] [5,10,13102,13103,14902,14903,15302,15303])
 (.seq (.seq (.aj [QL 18 4 5,Q 19 (.call 149 [.t 18] [] []),Q 20 (.not (.t 19)),Qm 21 20,Qg 22 (.load true 4 (.t 5)) 21 false,Qg 23 (.mv (.t 2)) 21 false,
   Qg 24 (.call 300 [.t 22,.t 23] [] []) 21 false,Q 25 (.pick (.t 21) (kB true) (.t 24)),Qm 26 25,Qg 27 (.mv (.t 12)) 26 false,Qg 28 (.bin .lss (.t 27) (kI 0)) 26 false,
   Q 29 (.pick (.t 26) (kB true) (.t 28))] [2,3,4,5,10,12,29] [5,10,13102,13103,14902,14903,15302,15303])
 (.cond (.t 29) (.seq (.aj [QL 30 4 5,Q 31 (.call 219 [.t 30] [] [(2,13102),(3,13103)]),Qs 4 10 31,Qb 11 false] [10,11] [10,13102,13103,14902,14903,15302,15303])
 (.ret)) (.skip)))
 (.seq (.gf [Qf 33 2 5,Ql 34 33,Qm 35 12,Qa 36 7 34 35,QL 37 7 36,Qm 38 2,Qm 39 3,Qm 40 4,QL 41 4 5,Q 42 (.call 301 [.t 41] [] []),
   Q 43 (.call 81 [.t 37,.t 38,.t 39,.t 40,.t 42] [] []),Qm 32 43,Qx 44 0 32,Qx 45 1 32,
   Q 13 (.alloc [.int .i64 0,.str ⟨#[]⟩,.int .i64 0,.int .i64 0,.int .i64 0,.aO 4,.aO 1]),Qs 7 13 44,Qm 14 45] [[],[0],[],[0,1,2],lr 4,[],[],[],[],[8],lr 10,lr 11,lr 12,lr 12,[],lr 13++[14],lr 16] [5,10,12,13,14] [5,10,13,13102,13103,14902,14903,15302,15303])
 (.seq (.seq (.aj [Qm 46 14,Q 47 (.not (.t 46))] [5,10,12,13,47] [5,10,13,13102,13103,14902,14903,15302,15303])
 (.cond (.t 47) (.seq (.aj [QL 48 4 5,Q 49 (.call 219 [.t 48] [] [(2,14902),(3,14903)]),Qs 4 10 49,Qb 11 false] [10,11] [10,13102,13103,14902,14903,15302,15303])
 (.ret)) (.skip)))
 (.seq (.aj [QL 50 4 5,Qm 51 12,QL 52 7 13,Q 53 (.call 302 [.t 50,.t 51,.t 52] [] [(2,15302),(3,15303)]),Qx 54 0 53,Qx 55 1 53,Qs 4 10 54,Qm 11 55] [10,11] [10,13102,13103,14902,14903,15302,15303])
 (.ret))))))
def dI.m:Fn:={np:=5,body:=dI.b,res:=[.cell 10 true 4,.tmp 11]}
def dI.k(M:Nat→Option Body):Prop:=M 279=some (.code dI.m)∧dg.k M∧aN.k M∧dA.k M∧cd.k M∧eX.k M∧dV.k M∧eG.k M
def dy.b:C:= .seq (.aj [Qv 4 0,Q 8 (.alloc [.int .i64 0,.int .i64 0,.aO 7,.aO 1]),Qb 9 false] [1,2,3,4,8] [4,8,12402,12403,14102,14103,14502,14503])
 (.seq (.aj [QL 13 4 4,Qm 14 1,Q 15 (.call 196 [.t 13,.t 14] [] []),Qm 10 15] [2,3,4,8,10] [4,8,12402,12403,14102,14103,14502,14503])
 (.seq (.seq (.aj [QL 16 4 4,Q 17 (.call 149 [.t 16] [] []),Q 18 (.not (.t 17)),Qm 19 18,Qg 20 (.mv (.t 10)) 19 false,Qg 21 (.bin .lss (.t 20) (kI 0)) 19 false,
   Q 22 (.pick (.t 19) (kB true) (.t 21))] [2,3,4,8,10,22] [4,8,12402,12403,14102,14103,14502,14503])
 (.cond (.t 22) (.seq (.aj [QL 23 4 4,Q 24 (.call 219 [.t 23] [] [(2,12402),(3,12403)]),Qs 4 8 24,Qb 9 false] [8,9] [8,12402,12403,14102,14103,14502,14503])
 (.ret)) (.skip)))
 (.seq (.gf [Qf 26 2 4,Ql 27 26,Qm 28 10,Qa 29 7 27 28,QL 30 7 29,Qm 31 2,Qm 32 3,QL 33 4 4,Q 34 (.call 301 [.t 33] [] []),Q 35 (.call 84 [.t 30,.t 31,.t 32,.t 34] [] []),Qm 25 35,
   Qx 36 0 25,Qx 37 1 25,Q 11 (.alloc [.int .i64 0,.str ⟨#[]⟩,.int .i64 0,.int .i64 0,.int .i64 0,.aO 4,.aO 1]),Qs 7 11 36,Qm 12 37] [[],[0],[],[0,1,2],lr 4,[],[],[],[7],lr 9,lr 10,lr 11,lr 11,[],lr 12++[13],lr 15] [4,8,10,11,12] [4,8,11,12402,12403,14102,14103,14502,14503])
 (.seq (.seq (.aj [Qm 38 12,Q 39 (.not (.t 38))] [4,8,10,11,39] [4,8,11,12402,12403,14102,14103,14502,14503])
 (.cond (.t 39) (.seq (.aj [QL 40 4 4,Q 41 (.call 219 [.t 40] [] [(2,14102),(3,14103)]),Qs 4 8 41,Qb 9 false] [8,9] [8,12402,12403,14102,14103,14502,14503])
 (.ret)) (.skip)))
 (.seq (.aj [QL 42 4 4,Qm 43 10,QL 44 7 11,Q 45 (.call 302 [.t 42,.t 43,.t 44] [] [(2,14502),(3,14503)]),Qx 46 0 45,Qx 47 1 45,Qs 4 8 46,Qm 9 47] [8,9] [8,12402,12403,14102,14103,14502,14503])
 (.ret))))))
def dy.m:Fn:={np:=4,body:=dy.b,res:=[.cell 8 true 4,.tmp 9]}
def dy.k(M:Nat→Option Body):Prop:=M 280=some (.code dy.m)∧de.k M∧aN.k M∧dA.k M∧cd.k M∧dV.k M∧eG.k M
def dz.b:C:= .seq (.aj [Qv 3 0,Q 6 (.alloc [.int .i64 0,.int .i64 0,.aO 7,.aO 1]),Qb 7 false] [1,2,3,6] [3,6,11302,11303])
 (.seq (.aj [QL 12 4 3,Q 13 (.call 219 [.t 12] [] [(2,11302),(3,11303)]),Q 8 (.alloc [.int .i64 0,.int .i64 0,.aO 7,.aO 1]),Qs 4 8 13] [1,2,3,6,8] [3,6,8,11302,11303])
 (.seq (.aj [QL 14 4 3,Qm 15 1,Q 16 (.call 196 [.t 14,.t 15] [] []),Qm 9 16] [2,3,6,8,9] [3,6,8,11302,11303])
 (.seq (.seq (.aj [QL 17 4 3,Q 18 (.call 149 [.t 17] [] []),Q 19 (.not (.t 18)),Qm 20 19,Qg 21 (.mv (.t 9)) 20 false,Qg 22 (.bin .lss (.t 21) (kI 0)) 20 false,
   Q 23 (.pick (.t 20) (kB true) (.t 22))] [2,3,6,8,9,23] [3,6,8,11302,11303])
 (.cond (.t 23) (.seq (.aj [QL 24 4 8,Qs 4 6 24,Qb 7 false] [6,7] [6,11302,11303])
 (.ret)) (.skip)))
 (.seq (.aj [Qf 26 2 3,Ql 27 26,Qm 28 9,Qa 29 7 27 28,QL 30 7 29,Qm 31 2,Q 32 (.call 86 [.t 30,.t 31] [] []),Qm 25 32,Qx 33 0 25,Qx 34 1 25,
   Q 10 (.alloc [.int .i64 0,.str ⟨#[]⟩,.int .i64 0,.int .i64 0,.int .i64 0,.aO 4,.aO 1]),Qs 7 10 33,Qm 11 34] [6,8,9,10,11] [6,8,10,11302,11303])
 (.seq (.seq (.aj [Qm 35 11,Q 36 (.not (.t 35))] [6,8,9,10,36] [6,8,10,11302,11303])
 (.cond (.t 36) (.seq (.aj [QL 37 4 8,Qs 4 6 37,Qb 7 false] [6,7] [6,11302,11303])
 (.ret)) (.skip)))
 (.seq (.aj [Qf 38 2 8,Ql 39 38,Qm 40 9,QL 41 7 10,Qa 42 7 39 40,Qs 7 42 41] [6,8] [6,8,11302,11303])
 (.seq (.aj [QL 43 4 8,Qs 4 6 43,Qb 7 true] [6,7] [6,11302,11303])
 (.ret))))))))
def dz.m:Fn:={np:=3,body:=dz.b,res:=[.cell 6 true 4,.tmp 7]}
def dz.k(M:Nat→Option Body):Prop:=M 281=some (.code dz.m)∧cS.k M∧aN.k M∧dA.k M∧cd.k M
def fM.l0:C:= .seq (.seq (.aj [Qm 8 4,Qm 9 0,Q 10 (.len (.t 9)),Q 11 (.bin .lss (.t 8) (.t 10)),Qm 12 11,Qg 13 (.mv (.t 4)) 12 true,Qg 14 (.bin .lss (.t 13) (kI 4000)) 12 true,
    Q 15 (.pick (.t 12) (.t 14) (kB false))] [0,3,4,15] [])
 (.cond (.t 15) (.skip) (.exit 0)))
 (.seq (.block 1 (.aj [Qm 18 3,Q 19 (.bin .mul (.t 18) (kI 131)),Qm 20 0,Qm 21 4,Qa 22 1 20 21,Ql 23 22,Q 24 (.q9 .i64 (.t 23)),Q 25 (.bin .add (.t 19) (.t 24)),Q 26 (.bin .add (.t 25) (kI 7)),
   Q 27 (.bin .and (.t 26) (kI 1073741823)),Qm 3 27] [0,3,4] []))
 (.aj [Qm 16 4,Q 17 (.bin .add (.t 16) (kI 1)),Qm 4 17] [0,3,4] []))
def fM.b:C:= .seq (.aj [Q 2 (.np)] [0] [])
 (.seq (.aj [Qm 5 0,Q 6 (.len (.t 5)),Q 7 (.bin .add (kI 77201) (.t 6)),Qm 3 7] [0,3] [])
 (.seq (.seq (.aj [Qi 4 0] [0,3,4] [])
 (.block 0 (.loop fM.l0)))
 (.seq (.aj [Qm 28 0,Qm 29 3,Q 30 (.build [.aO 1,.int .i64 0,.int .i64 0] [(0,1,.t 28),(2,1,.t 29)]),Qv 31 30,Qm 2 31] [2] [31])
 (.ret))))
def fM.m:Fn:={np:=1,body:=fM.b,res:=[.tmp 2]}
def fM.k(M:Nat→Option Body):Prop:=M 124=some (.code fM.m)
def eW.b:C:= .seq (.aj [Qi 2 0] [0] [0])
 (.seq (.aj [Qm 4 0,Qm 5 0,Q 6 (.j1 (.t 5)),Qf 7 2 6,Ql 8 7,Q 9 (.bin .mul (.t 8) (kI 6364136223846793005)),Q 10 (.bin .add (.t 9) (kI 1442695040888963407)),Q 11 (.j1 (.t 4)),
   Qf 12 2 11,Qs 1 12 10] [0] [0])
 (.seq (.gf [Qm 13 0,Q 14 (.j1 (.t 13)),Qf 15 2 14,Ql 16 15,Q 17 (.bin .shr (.t 16) (.k (.int .u64 33))),Qm 18 0,Q 19 (.j1 (.t 18)),Qf 20 2 19,Ql 21 20,
   Q 22 (.bin .shr (.t 21) (.k (.int .u64 45))),Q 23 (.bin .xor (.t 17) (.t 22)),Q 24 (.bin .and (.t 23) (kI 255)),Qm 3 24] [[],[0],[0,1],[0,1,2],lr 4,[],[5],[5,6],[5,6,7],[5,6,7,8],lr 10,lr 11,lr 12] [0,3] [0])
 (.seq (.seq (.gf [Qm 25 0,Q 26 (.j1 (.t 25)),Qf 27 1 26,Ql 28 27,Qm 29 0,Q 30 (.j1 (.t 29)),Qf 31 0 30,Ql 32 31,Q 33 (.len (.t 32)),Q 34 (.bin .lss (.t 28) (.t 33))] [[],[0],[0,1],[0,1,2],[],[4],[4,5],[4,5,6],[4,5,6,7],lr 9] [0,3,34] [0])
 (.cond (.t 34) (.seq (.gf [Qm 35 3,Qm 36 0,Q 37 (.j1 (.t 36)),Qf 38 0 37,Ql 39 38,Qm 40 0,Q 41 (.j1 (.t 40)),Qf 42 1 41,Ql 43 42,Qa 44 1 39 43,Ql 45 44,Q 46 (.q9 .i64 (.t 45)),
   Q 47 (.bin .add (.t 35) (.t 46)),Q 48 (.bin .and (.t 47) (kI 255)),Qm 3 48] [[],[],[1],[1,2],[1,2,3],[],[5],[5,6],[5,6,7],[1,2,3,4,5,6,7,8],[1,2,3,4,5,6,7,8,9],[1,2,3,4,5,6,7,8,9,10],lr 12,lr 13,lr 14] [0,3] [0])
 (.aj [Qm 49 0,Qm 50 0,Q 51 (.j1 (.t 50)),Qf 52 1 51,Ql 53 52,Q 54 (.bin .add (.t 53) (kI 1)),Q 55 (.j1 (.t 49)),Qf 56 1 55,Qs 1 56 54] [3] [0])) (.skip)))
 (.seq (.aj [Qm 57 3,Qm 2 57] [2] [0])
 (.ret)))))
def eW.m:Fn:={np:=1,body:=eW.b,res:=[.tmp 2]}
def eW.k(M:Nat→Option Body):Prop:=M 131=some (.code eW.m)
def aG.b:C:= .seq (.aj [Qi 4 0] [0,1] [0])
 (.seq (.seq (.aj [Qm 9 1,Q 10 (.bin .leq (.t 9) (kI 0))] [0,1,10] [0])
 (.cond (.t 10) (.seq (.aj [Qi 4 0] [4] [0])
 (.ret)) (.skip)))
 (.seq (.seq (.aj [Qm 11 1,Q 12 (.bin .leq (.t 11) (kI 256))] [0,1,12] [0])
 (.cond (.t 12) (.seq (.aj [Qm 13 0,Q 14 (.call 131 [.t 13] [0] []),Qm 15 1,Q 16 (.bin .rem (.t 14) (.t 15)),Qm 4 16] [4] [0])
 (.ret)) (.skip)))
 (.seq (.aj [Qm 17 0,Q 18 (.call 131 [.t 17] [0] []),Qm 5 18] [0,1,5] [0])
 (.seq (.aj [Qm 19 0,Q 20 (.call 131 [.t 19] [0] []),Qm 6 20] [0,1,5,6] [0])
 (.seq (.aj [Qm 21 0,Q 22 (.call 131 [.t 21] [0] []),Qm 7 22] [0,1,5,6,7] [0])
 (.seq (.aj [Qm 23 0,Q 24 (.call 131 [.t 23] [0] []),Qm 8 24] [1,5,6,7,8] [0])
 (.seq (.aj [Qm 25 5,Q 26 (.bin .mul (.t 25) (kI 16777216)),Qm 27 6,Q 28 (.bin .mul (.t 27) (kI 65536)),Q 29 (.bin .add (.t 26) (.t 28)),Qm 30 7,Q 31 (.bin .mul (.t 30) (kI 256)),
   Q 32 (.bin .add (.t 29) (.t 31)),Qm 33 8,Q 34 (.bin .add (.t 32) (.t 33)),Qm 35 1,Q 36 (.bin .rem (.t 34) (.t 35)),Qm 4 36] [4] [0])
 (.ret))))))))
def aG.m:Fn:={np:=2,body:=aG.b,res:=[.tmp 4]}
def aG.k(M:Nat→Option Body):Prop:=M 125=some (.code aG.m)∧eW.k M
def dG.b:C:= .seq (.aj [Q 4 (.mv (.k (.str ⟨#[]⟩)))] [0,1] [0])
 (.seq (.aj [Qm 5 1,Qm 6 0,Qm 7 1,Q 8 (.len (.t 7)),Q 9 (.call 125 [.t 6,.t 8] [0] []),Qa 10 1 5 9,Ql 11 10,Qm 4 11] [4] [0])
 (.ret))
def dG.m:Fn:={np:=2,body:=dG.b,res:=[.tmp 4]}
def dG.k(M:Nat→Option Body):Prop:=M 185=some (.code dG.m)∧aG.k M
def eU.b:C:= .seq (.aj [Q 2 (.mv (.k (.str ⟨#[]⟩)))] [0] [0])
 (.seq (.aj [Qm 3 0,
   Q 4 (.rS 1 6 [.str ⟨#[]⟩] [(0,.k (.str ⟨#[104,101,108,108,111]⟩)),(1,.k (.str ⟨#[104,105,10]⟩)),(2,.k (.str ⟨#[]⟩)),(3,.k (.str ⟨#[116,101,120,116,32,111,102,32,105,116]⟩)),(4,.k (.str ⟨#[0,255]⟩)),(5,.k (.str ⟨#[97,32,98]⟩))]),
   Q 5 (.call 185 [.t 3,.t 4] [0] []),Qm 2 5] [2] [0])
 (.ret))
def eU.m:Fn:={np:=1,body:=eU.b,res:=[.tmp 2]}
def eU.k(M:Nat→Option Body):Prop:=M 174=some (.code eU.m)∧dG.k M
def eO.b:C:= .seq (.aj [Q 2 (.alloc [.int .i64 0,.int .i64 0])] [0,2] [0,2])
 (.seq (.aj [Qm 3 0,Q 4 (.call 125 [.t 3,kI 12] [0] []),Qm 5 0,Q 6 (.call 125 [.t 5,kI 2] [0] []),Q 7 (.bin .add (kI 1) (.t 6)),
   Q 8 (.build [.int .i64 0,.int .i64 0] [(0,1,.t 4),(1,1,.t 7)]),Qs 2 2 8] [2] [0,2])
 (.ret))
def eO.m:Fn:={np:=1,body:=eO.b,res:=[.cell 2 true 2]}
def eO.k(M:Nat→Option Body):Prop:=M 232=some (.code eO.m)∧aG.k M
def cu.l0:C:= .seq (.seq (.aj [Qm 18 5,Qm 19 0,Q 20 (.call 125 [.t 19,kI 12] [0] []),Q 21 (.bin .lss (.t 18) (.t 20))] [0,2,4,5,21] [0,2,4,14905,14906])
 (.cond (.t 21) (.skip) (.exit 0)))
 (.seq (.block 1 (.seq (.aj [Qm 24 0,Q 25 (.call 125 [.t 24,kI 9] [0] []),Q 26 (.bin .add (kI 10) (.t 25)),Qm 6 26] [0,2,4,5,6] [0,2,4,14905,14906])
 (.seq (.aj [Qm 27 0,Q 28 (.call 232 [.t 27] [0] []),Q 7 (.alloc [.int .i64 0,.int .i64 0]),Qs 2 7 28] [0,2,4,5,6,7] [0,2,4,7,14905,14906])
 (.seq (.aj [Qm 29 0,Q 30 (.call 125 [.t 29,kI 5] [0] [])] [0,2,4,5,6,7,30] [0,2,4,7,14905,14906])
 (.block 2 (.seq (.seq (.aj [Q 38 (.bin .eql (.t 30) (kI 0)),Qm 37 38] [0,2,4,5,6,7,30,37] [0,2,4,7,14905,14906])
 (.cond (.t 37) (.skip) (.seq (.aj [Q 39 (.bin .eql (.t 30) (kI 1)),Qm 37 39] [0,2,4,5,6,7,30,37] [0,2,4,7,14905,14906])
 (.cond (.t 37) (.skip) (.aj [Q 40 (.bin .eql (.t 30) (kI 2)),Qm 37 40] [0,2,4,5,6,7,30,37] [0,2,4,7,14905,14906])))))
 (.cond (.t 37) (.shut [14905,14906] (.gf [QL 42 7 4,Qm 43 6,Qm 44 0,Q 45 (.call 125 [.t 44,kI 8] [0] []),Qm 46 0,Q 47 (.call 174 [.t 46] [0] []),QL 48 2 7,
   Q 49 (.call 81 [.t 42,.t 43,.t 45,.t 47,.t 48] [] [(5,14905),(6,14906)]),Qm 41 49,Qx 50 0 41,Qx 51 1 41,Qs 7 4 50] [[],[],[],[2],[],[2,3,4],[],lr 7,lr 8,lr 9,lr 9,lr 10] [0,2,4,5] [0,2,4,14905,14906])) (.seq (.aj [Q 53 (.bin .eql (.t 30) (kI 3)),Qm 52 53] [0,2,4,5,6,7,52] [0,2,4,7,14905,14906])
 (.cond (.t 52) (.shut [14905,14906] (.gf [QL 55 7 4,Qm 56 6,Qm 57 0,Q 58 (.call 125 [.t 57,kI 8] [0] []),QL 59 2 7,Q 60 (.call 84 [.t 55,.t 56,.t 58,.t 59] [] [(5,14905),(6,14906)]),Qm 54 60,Qx 61 0 54,
   Qx 62 1 54,Qs 7 4 61] [[],[],[],[2],[],lr 5,lr 6,lr 7,lr 7,lr 8] [0,2,4,5] [0,2,4,14905,14906])) (.shut [14905,14906] (.aj [QL 32 7 4,Qm 33 6,Q 34 (.call 86 [.t 32,.t 33] [] [(5,14905),(6,14906)]),Qm 31 34,Qx 35 0 31,Qx 36 1 31,Qs 7 4 35] [0,2,4,5] [0,2,4,14905,14906])))))))))))
 (.aj [Qm 22 5,Q 23 (.bin .add (.t 22) (kI 1)),Qm 5 23] [0,2,4,5] [0,2,4,14905,14906]))
def cu.b:C:= .seq (.aj [Q 2 (.alloc [.int .i64 0,.str ⟨#[]⟩,.int .i64 0,.int .i64 0,.int .i64 0,.aO 4,.aO 1])] [0,2] [0,2,14905,14906])
 (.seq (.aj [Qm 8 0,Q 9 (.call 232 [.t 8] [0] []),Q 3 (.alloc [.int .i64 0,.int .i64 0]),Qs 2 3 9] [0,2,3] [0,2,3,14905,14906])
 (.seq (.gf [Qm 10 0,Q 11 (.rS 1 3 [.str ⟨#[]⟩] [(0,.k (.str ⟨#[105,110,98,111,120]⟩)),(1,.k (.str ⟨#[119,111,114,107]⟩)),(2,.k (.str ⟨#[111,108,100,57]⟩))]),
   Q 12 (.call 185 [.t 10,.t 11] [0] []),QL 13 2 3,Qm 14 0,Q 15 (.call 125 [.t 14,kI 4] [0] []),Q 16 (.bin .add (kI 1) (.t 15)),
   Q 17 (.build [.int .i64 0,.str ⟨#[]⟩,.int .i64 0,.int .i64 0,.int .i64 0,.aO 4,.aO 1] [(0,1,kI 7),(1,1,.t 12),(2,2,.t 13),(4,1,.t 16)]),
   Q 4 (.alloc [.int .i64 0,.str ⟨#[]⟩,.int .i64 0,.int .i64 0,.int .i64 0,.aO 4,.aO 1]),Qs 7 4 17] [[],[],[0,1],[],[],[0,1,2,4],[0,1,2,4,5],lr 7,[],lr 9] [0,2,4] [0,2,4,14905,14906])
 (.seq (.seq (.aj [Qi 5 0] [0,2,4,5] [0,2,4,14905,14906])
 (.block 0 (.loop cu.l0)))
 (.seq (.aj [QL 63 7 4,Qs 7 2 63] [2] [0,2,14905,14906])
 (.ret)))))
def cu.m:Fn:={np:=1,body:=cu.b,res:=[.cell 2 true 7]}
def cu.k(M:Nat→Option Body):Prop:=M 154=some (.code cu.m)∧dg.k M∧de.k M∧cS.k M∧aG.k M∧eU.k M∧dG.k M∧eO.k M
def lD.b:C:= .seq (.aj [Qb 2 false] [0] [])
 (.seq (.aj [Qm 3 0,Q 4 (.len (.t 3)),Q 5 (.bin .gtr (.t 4) (kI 1048576)),Qm 2 5] [2] [])
 (.ret))
def lD.m:Fn:={np:=1,body:=lD.b,res:=[.tmp 2]}
def lD.k(M:Nat→Option Body):Prop:=M 36=some (.code lD.m)
def fe.b:C:= .seq (.aj [Qi 4 0] [0,1] [0])
 (.seq (.aj [Qm 5 1,Qm 6 0,Qm 7 1,Q 8 (.len (.t 7)),Q 9 (.call 125 [.t 6,.t 8] [0] []),Qa 10 1 5 9,Ql 11 10,Qm 4 11] [4] [0])
 (.ret))
def fe.m:Fn:={np:=2,body:=fe.b,res:=[.tmp 4]}
def fe.k(M:Nat→Option Body):Prop:=M 179=some (.code fe.m)∧aG.k M
def iD.b:C:= .seq (.aj [Qb 4 false] [0,1] [0])
 (.seq (.aj [Qm 5 0,Qm 6 1,Q 7 (.call 125 [.t 5,.t 6] [0] []),Q 8 (.bin .eql (.t 7) (kI 0)),Qm 4 8] [4] [0])
 (.ret))
def iD.m:Fn:={np:=2,body:=iD.b,res:=[.tmp 4]}
def iD.k(M:Nat→Option Body):Prop:=M 175=some (.code iD.m)∧aG.k M
def dH.l0:C:= .seq (.seq (.aj [Qm 9 6,Qm 10 0,Q 11 (.bin .lss (.t 9) (.t 10))] [0,1,5,6,11] [8])
 (.cond (.t 11) (.skip) (.exit 0)))
 (.seq (.block 1 (.aj [Qm 14 5,Qm 15 6,Qm 16 1,Qa 17 1 14 15,Qs 1 17 16] [0,1,5,6] [8]))
 (.aj [Qm 12 6,Q 13 (.bin .add (.t 12) (kI 1)),Qm 6 13] [0,1,5,6] [8]))
def dH.b:C:= .seq (.aj [Q 4 (.mv (.k (.str ⟨#[]⟩)))] [0,1] [])
 (.seq (.aj [Qm 7 0,Q 8 (.Kh 1 1 [.int .u8 0] (.t 7)),Qm 5 8] [0,1,5] [8])
 (.seq (.seq (.aj [Qi 6 0] [0,1,5,6] [8])
 (.block 0 (.loop dH.l0)))
 (.seq (.aj [Qm 18 5,Q 19 (.CC (.t 18)),Qm 4 19] [4] [])
 (.ret))))
def dH.m:Fn:={np:=2,body:=dH.b,res:=[.tmp 4]}
def dH.k(M:Nat→Option Body):Prop:=M 176=some (.code dH.m)
def gd.b:C:= .seq (.aj [Q 2 (.alloc [.int .i64 0,.int .i64 0])] [0,2] [0,2])
 (.seq (.aj [Qm 4 0,Q 5 (.call 232 [.t 4] [0] []),Q 3 (.alloc [.int .i64 0,.int .i64 0]),Qs 2 3 5] [0,2,3] [0,2,3])
 (.seq (.seq (.aj [Qm 6 0,Q 7 (.call 125 [.t 6,kI 8] [0] [])] [0,2,3,7] [0,2,3])
 (.block 0 (.seq (.aj [Q 9 (.bin .eql (.t 7) (kI 0)),Qm 8 9] [0,2,3,7,8] [0,2,3])
 (.cond (.t 8) (.aj [Qm 10 0,Q 11 (.rS 1 3 [.int .i64 0] [(0,kI (-1)),(1,kI 100000),(2,kI 100001)]),Q 12 (.call 179 [.t 10,.t 11] [0] []),Qf 13 0 3,Qs 1 13 12] [2,3] [0,2,3]) (.seq (.aj [Q 15 (.bin .eql (.t 7) (kI 1)),Qm 14 15] [0,2,3,14] [0,2,3])
 (.cond (.t 14) (.aj [Qm 16 0,Q 17 (.rS 1 3 [.int .i64 0] [(0,kI (-1)),(1,kI 0),(2,kI 3)]),Q 18 (.call 179 [.t 16,.t 17] [0] []),Qf 19 1 3,Qs 1 19 18] [2,3] [0,2,3]) (.skip)))))))
 (.seq (.aj [QL 20 2 3,Qs 2 2 20] [2] [0,2])
 (.ret))))
def gd.m:Fn:={np:=1,body:=gd.b,res:=[.cell 2 true 2]}
def gd.k(M:Nat→Option Body):Prop:=M 177=some (.code gd.m)∧aG.k M∧fe.k M∧eO.k M
def jy.b:C:= .seq (.aj [Q 2 (.alloc [.int .i64 0,.int .i64 0,.int .i64 0])] [0,2] [0,2])
 (.seq (.aj [Qm 4 0,Q 5 (.call 177 [.t 4] [0] []),Q 3 (.alloc [.int .i64 0,.int .i64 0]),Qs 2 3 5] [0,2,3] [0,2,3])
 (.seq (.gf [Qm 6 0,Q 7 (.rS 1 6 [.int .i64 0] [(0,kI 0),(1,kI 1),(2,kI 1),(3,kI 7),(4,kI (-1)),(5,kI 1000000001)]),Q 8 (.call 179 [.t 6,.t 7] [0] []),QL 9 2 3,
   Q 10 (.build [.int .i64 0,.int .i64 0,.int .i64 0] [(0,1,.t 8),(1,2,.t 9)]),Qs 3 2 10] [[],[],[0,1],[],lr 4,lr 5] [2] [0,2])
 (.ret)))
def jy.m:Fn:={np:=1,body:=jy.b,res:=[.cell 2 true 3]}
def jy.k(M:Nat→Option Body):Prop:=M 299=some (.code jy.m)∧gd.k M∧fe.k M
def db.l0:C:= .seq (.seq (.aj [Qm 7 4,Q 8 (.bin .lss (.t 7) (kI 3))] [0,3,4,8] [0,6,19])
 (.cond (.t 8) (.skip) (.exit 0)))
 (.seq (.block 1 (.seq (.aj [Qm 11 0,Q 12 (.call 232 [.t 11] [0] []),Q 5 (.alloc [.int .i64 0,.int .i64 0]),Qs 2 5 12] [0,3,4,5] [0,5,6,19])
 (.gf [Qm 13 3,Qm 14 0,Q 15 (.call 125 [.t 14,kI 2] [0] []),QL 16 2 5,Q 17 (.build [.int .i64 0,.int .i64 0,.int .i64 0] [(0,1,.t 15),(1,2,.t 16)]),
   Q 18 (.bL 3 1 [.int .i64 0,.int .i64 0,.int .i64 0] [(0,.t 17)]),Q 19 (.app 3 24 (.t 13) (.t 18)),Qm 3 19] [[],[],[1],[],[1,2,3],[1,2,3,4],lr 6,lr 7] [0,3,4] [0,6,19])))
 (.aj [Qm 9 4,Q 10 (.bin .add (.t 9) (kI 1)),Qm 4 10] [0,3,4] [0,6,19]))
def db.b:C:= .seq (.aj [Q 2 (.nil 3)] [0] [0])
 (.seq (.aj [Q 6 (.bL 3 0 [.int .i64 0,.int .i64 0,.int .i64 0] []),Qm 3 6] [0,3] [0,6,19])
 (.seq (.seq (.aj [Qi 4 0] [0,3,4] [0,6,19])
 (.block 0 (.loop db.l0)))
 (.seq (.aj [Qm 20 3,Qm 2 20] [2] [0,2,6,19])
 (.ret))))
def db.m:Fn:={np:=1,body:=db.b,res:=[.tmp 2]}
def db.k(M:Nat→Option Body):Prop:=M 298=some (.code db.m)∧aG.k M∧eO.k M
def fL.b:C:= .seq (.aj [Q 2 (.nil 3)] [0] [0])
 (.seq (.aj [Qm 5 0,Q 6 (.call 125 [.t 5,kI 10] [0] []),Qm 3 6] [0,3] [0])
 (.seq (.aj [Qm 7 0,Q 8 (.call 298 [.t 7] [0] [(0,10800)]),Qm 4 8] [0,3,4] [0,15,10800])
 (.seq (.seq (.aj [Qm 9 3] [0,4,9] [0,15,10800])
 (.block 0 (.seq (.aj [Q 11 (.bin .eql (.t 9) (kI 0)),Qm 10 11] [0,4,9,10] [0,15,10800])
 (.cond (.t 10) (.aj [Qm 12 4,Q 13 (.build [.int .i64 0,.int .i64 0,.int .i64 0] []),Q 14 (.bL 3 1 [.int .i64 0,.int .i64 0,.int .i64 0] [(0,.t 13)]),Q 15 (.app 3 24 (.t 12) (.t 14)),
   Qm 4 15] [4] [0,15,10800]) (.seq (.aj [Q 17 (.bin .eql (.t 9) (kI 1)),Qm 16 17] [0,4,9,16] [0,15,10800])
 (.cond (.t 16) (.aj [Qm 18 4,Q 19 (.vU 3 (.t 18) (some (kI 1)) none none),Qm 4 19] [4] [0,15,10800]) (.seq (.aj [Q 21 (.bin .eql (.t 9) (kI 2)),Qm 20 21] [0,4,20] [0,15,10800])
 (.cond (.t 20) (.aj [Qm 22 4,Qm 23 0,Q 24 (.call 125 [.t 23,kI 3] [0] []),Qm 25 0,Q 26 (.call 299 [.t 25] [0] []),Qa 27 3 22 24,Qs 3 27 26] [4] [0,15,10800]) (.skip)))))))))
 (.seq (.shut [15,10800] (.aj [Qm 28 4,Qm 2 28] [2] [0,2,15,10800]))
 (.ret)))))
def fL.m:Fn:={np:=1,body:=fL.b,res:=[.tmp 2]}
def fL.k(M:Nat→Option Body):Prop:=M 274=some (.code fL.m)∧aG.k M∧db.k M∧jy.k M
def iT.b:C:= .seq (.aj [Q 2 (.alloc [.int .i64 0,.int .i64 0,.aO 3,.str ⟨#[]⟩])] [0,2] [0,2,11300])
 (.seq (.aj [Qm 6 0,Q 7 (.call 125 [.t 6,kI 6] [0] []),Q 8 (.bin .add (kI 1) (.t 7)),Qm 3 8] [0,2,3] [0,2,11300])
 (.seq (.aj [Qm 9 0,Q 10 (.call 125 [.t 9,kI 6] [0] []),Q 11 (.bin .add (kI 1) (.t 10)),Qm 4 11] [0,2,3,4] [0,2,11300])
 (.seq (.aj [Qm 12 0,Q 13 (.call 298 [.t 12] [0] [(0,11300)]),Qm 5 13] [0,2,3,4,5] [0,2,11300])
 (.seq (.aj [Qm 14 3,Qm 15 4,Qm 16 5,Qm 17 0,Q 18 (.call 174 [.t 17] [0] []),
   Q 19 (.build [.int .i64 0,.int .i64 0,.aO 3,.str ⟨#[]⟩] [(0,1,.t 14),(1,1,.t 15),(2,1,.t 16),(3,1,.t 18)]),Qs 4 2 19] [2] [0,2,11300])
 (.ret)))))
def iT.m:Fn:={np:=1,body:=iT.b,res:=[.cell 2 true 4]}
def iT.k(M:Nat→Option Body):Prop:=M 273=some (.code iT.m)∧aG.k M∧eU.k M∧db.k M
def b8.b:C:= .seq (.aj [Q 2 (.alloc [.int .i64 0,.int .i64 0,.aO 3,.str ⟨#[]⟩])] [0,2] [0,2,11102,13200])
 (.seq (.aj [Qm 6 0,Q 7 (.call 125 [.t 6,kI 10] [0] []),Qm 3 7] [0,2,3] [0,2,11102,13200])
 (.seq (.aj [Qm 8 0,Q 9 (.call 125 [.t 8,kI 60] [0] []),Qm 4 9] [0,2,3,4] [0,2,11102,13200])
 (.seq (.aj [Qm 10 0,Q 11 (.call 273 [.t 10] [0] []),Q 5 (.alloc [.int .i64 0,.int .i64 0,.aO 3,.str ⟨#[]⟩]),Qs 4 5 11] [0,2,3,4,5] [0,2,5,11102,13200])
 (.seq (.seq (.aj [Qm 12 3] [0,2,4,5,12] [0,2,5,11102,13200])
 (.block 0 (.seq (.aj [Q 14 (.bin .eql (.t 12) (kI 0)),Qm 13 14] [0,2,4,5,12,13] [0,2,5,11102,13200])
 (.cond (.t 13) (.aj [Q 15 (.bL 1 4 [.int .i64 0] [(0,kI 0),(1,kI 9999),(2,kI 10000),(3,kI (-1))]),Qm 16 4,Q 17 (.bin .rem (.t 16) (kI 4)),Qa 18 1 15 17,Ql 19 18,Qf 20 0 5,Qs 1 20 19] [2,5] [0,2,5,11102,13200]) (.seq (.aj [Q 22 (.bin .eql (.t 12) (kI 1)),Qm 21 22] [0,2,4,5,12,21] [0,2,5,11102,13200])
 (.cond (.t 21) (.aj [Q 23 (.bL 1 3 [.int .i64 0] [(0,kI 0),(1,kI 9999),(2,kI 10000)]),Qm 24 4,Q 25 (.bin .rem (.t 24) (kI 3)),Qa 26 1 23 25,Ql 27 26,Qf 28 1 5,Qs 1 28 27] [2,5] [0,2,5,11102,13200]) (.seq (.aj [Q 30 (.bin .eql (.t 12) (kI 2)),Qm 29 30] [0,2,4,5,12,29] [0,2,5,11102,13200])
 (.cond (.t 29) (.aj [Qm 31 0,Q 32 (.call 274 [.t 31] [0] []),Qf 33 2 5,Qs 1 33 32] [2,5] [0,2,5,11102,13200]) (.seq (.aj [Q 35 (.bin .eql (.t 12) (kI 3)),Qm 34 35] [2,4,5,34] [0,2,5,11102,13200])
 (.cond (.t 34) (.aj [Qm 36 4,Q 37 (.bin .rem (.t 36) (kI 2)),Q 38 (.bin .add (kI 60) (.t 37)),Q 39 (.call 176 [.t 38,.k (.int .u8 97)] [] []),Qf 40 3 5,Qs 1 40 39] [2,5] [0,2,5,11102,13200]) (.skip)))))))))))
 (.seq (.aj [QL 41 4 5,Qs 4 2 41] [2] [0,2,11102,13200])
 (.ret))))))
def b8.m:Fn:={np:=1,body:=b8.b,res:=[.cell 2 true 4]}
def b8.k(M:Nat→Option Body):Prop:=M 237=some (.code b8.m)∧aG.k M∧dH.k M∧iT.k M∧fL.k M
def cp.b:C:= .seq (.aj [Q 2 (.alloc [.int .i64 0,.str ⟨#[]⟩,.int .i64 0,.int .i64 0,.int .i64 0,.aO 4,.aO 1])] [0,2] [0,2,39,47,11205,11206])
 (.seq (.aj [Qm 6 0,Q 7 (.call 125 [.t 6,kI 14] [0] []),Qm 3 7] [0,2,3] [0,2,39,47,11205,11206])
 (.seq (.aj [Qm 8 0,Q 9 (.call 125 [.t 8,kI 60] [0] []),Qm 4 9] [0,2,3,4] [0,2,39,47,11205,11206])
 (.seq (.aj [Qm 10 0,Q 11 (.call 154 [.t 10] [0] []),Q 12 (.call 180 [.t 11] [] [(5,11205),(6,11206)]),
   Q 5 (.alloc [.int .i64 0,.str ⟨#[]⟩,.int .i64 0,.int .i64 0,.int .i64 0,.aO 4,.aO 1]),Qs 7 5 12] [0,2,3,4,5] [0,2,5,39,47,11205,11206])
 (.seq (.seq (.aj [Qm 13 3] [0,2,4,5,13] [0,2,5,39,47,11205,11206])
 (.block 0 (.seq (.aj [Q 15 (.bin .eql (.t 13) (kI 0)),Qm 14 15] [0,2,4,5,13,14] [0,2,5,39,47,11205,11206])
 (.cond (.t 14) (.aj [Qm 16 4,Q 17 (.bin .rem (.t 16) (kI 3)),Qf 18 0 5,Qs 1 18 17] [2,5] [0,2,5,39,47,11205,11206]) (.seq (.aj [Q 20 (.bin .eql (.t 13) (kI 1)),Qm 19 20] [0,2,4,5,13,19] [0,2,5,39,47,11205,11206])
 (.cond (.t 19) (.aj [Q 21 (.bL 1 3 [.str ⟨#[]⟩] [(0,.k (.str ⟨#[]⟩)),(1,.k (.str ⟨#[65]⟩)),(2,.k (.str ⟨#[116,104,105,114,116,101,101,110,115,105,103,110,115]⟩))]),Qm 22 4,
   Q 23 (.bin .rem (.t 22) (kI 3)),Qa 24 1 21 23,Ql 25 24,Qf 26 1 5,Qs 1 26 25] [2,5] [0,2,5,39,47,11205,11206]) (.seq (.aj [Q 28 (.bin .eql (.t 13) (kI 2)),Qm 27 28] [0,2,4,5,13,27] [0,2,5,39,47,11205,11206])
 (.cond (.t 27) (.aj [Qm 29 4,Q 30 (.bin .rem (.t 29) (kI 5)),Qf 31 4 5,Qs 1 31 30] [2,5] [0,2,5,39,47,11205,11206]) (.seq (.aj [Q 33 (.bin .eql (.t 13) (kI 3)),Qm 32 33] [0,2,4,5,13,32] [0,2,5,39,47,11205,11206])
 (.cond (.t 32) (.gf [Qf 34 5 5,Ql 35 34,Qm 36 0,Q 37 (.call 237 [.t 36] [0] []),Q 38 (.bL 4 1 [.int .i64 0,.int .i64 0,.aO 3,.str ⟨#[]⟩] [(0,.t 37)]),Q 39 (.app 4 56 (.t 35) (.t 38)),
   Qf 40 5 5,Qs 1 40 39] [[],[0],[],[2],[2,3],lr 5,lr 6,lr 7] [2,5] [0,2,5,39,47,11205,11206]) (.seq (.aj [Q 42 (.bin .eql (.t 13) (kI 4)),Qm 41 42] [0,2,4,5,13,41] [0,2,5,39,47,11205,11206])
 (.cond (.t 41) (.aj [Qf 43 6 5,Ql 44 43,Qm 45 4,Q 46 (.bL 1 1 [.int .i64 0] [(0,.t 45)]),Q 47 (.app 1 8 (.t 44) (.t 46)),Qf 48 6 5,Qs 1 48 47] [2,5] [0,2,5,39,47,11205,11206]) (.seq (.aj [Q 50 (.bin .eql (.t 13) (kI 5)),Qm 49 50] [0,2,5,49] [0,2,5,39,47,11205,11206])
 (.cond (.t 49) (.aj [Qm 51 0,Q 52 (.call 177 [.t 51] [0] []),Qf 53 2 5,Qs 2 53 52] [2,5] [0,2,5,39,47,11205,11206]) (.skip)))))))))))))))
 (.seq (.aj [QL 54 7 5,Qs 7 2 54] [2] [0,2,39,47,11205,11206])
 (.ret))))))
def cp.m:Fn:={np:=1,body:=cp.b,res:=[.cell 2 true 7]}
def cp.k(M:Nat→Option Body):Prop:=M 173=some (.code cp.m)∧aG.k M∧cu.k M∧gd.k M∧b5.k M∧b8.k M
def gn.b:C:= .seq (.aj [Q 2 (.alloc [.int .i64 0,.int .i64 0,.aO 7,.aO 1])] [0,2] [2])
 (.seq (.aj [Qm 3 0,Q 4 (.build [.int .i64 0,.int .i64 0,.aO 7,.aO 1] [(0,1,.t 3)]),Qs 4 2 4] [2] [2])
 (.ret))
def gn.m:Fn:={np:=1,body:=gn.b,res:=[.cell 2 true 4]}
def gn.k(M:Nat→Option Body):Prop:=M 113=some (.code gn.m)
def bc.br:C:= .seq (.aj [Qm 59 10,Q 60 (.bin .eql (.t 59) (kI 0)),Qm 61 60,Qg 62 (.mv (.t 13)) 61 false,Qg 63 (.bin .eql (.t 62) (kI 0)) 61 false,Q 64 (.pick (.t 61) (kB true) (.t 63)),Qm 58 64] [0,2,3,5,8,9,10,11,13,58] [0,5,8,15502,15503])
 (.cond (.t 58) (.shut [15502,15503] (.gf [QL 66 4 5,Qm 67 3,Qm 68 9,Q 69 (.bin .add (.t 67) (.t 68)),Qm 70 0,
   Q 71 (.rS 1 3 [.str ⟨#[]⟩] [(0,.k (.str ⟨#[105,110,98,111,120]⟩)),(1,.k (.str ⟨#[119,111,114,107]⟩)),(2,.k (.str ⟨#[111,108,100]⟩))]),
   Q 72 (.call 185 [.t 70,.t 71] [0] []),Q 73 (.call 278 [.t 66,.t 69,.t 72] [] [(2,15502),(3,15503)]),Qm 65 73,Qx 74 0 65,Qx 75 1 65,Qs 4 5 74] [[],[],[],[1,2],[],[],[4,5],lr 7,lr 8,lr 9,lr 9,lr 10] [0,2,3,5,8,9] [0,5,8,15502,15503])) (.seq (.aj [Qm 77 13,Q 78 (.bin .lss (.t 77) (kI 6)),Qm 76 78] [0,2,3,5,8,9,10,11,13,76] [0,5,8,15502,15503])
 (.cond (.t 76) (.shut [15502,15503] (.gf [QL 80 4 5,Qm 81 10,Qm 82 3,Qm 83 9,Q 84 (.bin .add (.t 82) (.t 83)),Qm 85 0,Q 86 (.call 125 [.t 85,kI 8] [0] []),Qm 87 0,Q 88 (.call 174 [.t 87] [0] []),
   Q 89 (.call 279 [.t 80,.t 81,.t 84,.t 86,.t 88] [] [(2,15502),(3,15503)]),Qm 79 89,Qx 90 0 79,Qx 91 1 79,Qs 4 5 90] [[],[],[],[],[2,3],[],[5],[],[5,6,7],lr 9,lr 10,lr 11,lr 11,lr 12] [0,2,3,5,8,9] [0,5,8,15502,15503])) (.seq (.aj [Qm 93 13,Q 94 (.bin .lss (.t 93) (kI 9)),Qm 92 94] [0,2,3,5,8,9,10,11,13,92] [0,5,8,15502,15503])
 (.cond (.t 92) (.shut [15502,15503] (.gf [QL 96 4 5,Qm 97 10,Qm 98 11,Qm 99 0,Q 100 (.call 125 [.t 99,kI 8] [0] []),Q 101 (.call 280 [.t 96,.t 97,.t 98,.t 100] [] [(2,15502),(3,15503)]),Qm 95 101,Qx 102 0 95,
   Qx 103 1 95,Qs 4 5 102] [[],[],[],[],[3],lr 5,lr 6,lr 7,lr 7,lr 8] [0,2,3,5,8,9] [0,5,8,15502,15503])) (.seq (.aj [Qm 105 13,Q 106 (.bin .eql (.t 105) (kI 9)),Qm 104 106] [0,2,3,5,8,9,10,11,13,104] [0,5,8,15502,15503])
 (.cond (.t 104) (.shut [15502,15503] (.aj [QL 108 4 5,Qm 109 10,Qm 110 11,Q 111 (.call 281 [.t 108,.t 109,.t 110] [] [(2,15502),(3,15503)]),Qm 107 111,Qx 112 0 107,Qx 113 1 107,Qs 4 5 112] [0,2,3,5,8,9] [0,5,8,15502,15503])) (.seq (.aj [Qm 115 13,Q 116 (.bin .eql (.t 115) (kI 10)),Qm 114 116] [0,2,3,5,8,9,10,114] [0,5,8,15502,15503])
 (.cond (.t 114) (.shut [15502,15503] (.gf [QL 118 4 5,Qm 119 10,Qm 120 0,
   Q 121 (.rS 1 4 [.str ⟨#[]⟩] [(0,.k (.str ⟨#[105,110,98,111,120]⟩)),(1,.k (.str ⟨#[119,111,114,107]⟩)),(2,.k (.str ⟨#[110,101,119]⟩)),(3,.k (.str ⟨#[111,116,104,101,114]⟩))]),
   Q 122 (.call 185 [.t 120,.t 121] [0] []),Q 123 (.call 282 [.t 118,.t 119,.t 122] [] [(2,15502),(3,15503)]),Qm 117 123,Qx 124 0 117,Qx 125 1 117,Qs 4 5 124] [[],[],[],[],[2,3],lr 5,lr 6,lr 7,lr 7,lr 8] [0,2,3,5,8,9] [0,5,8,15502,15503])) (.seq (.aj [Qm 50 0,Q 51 (.call 175 [.t 50,kI 3] [0] [])] [0,2,3,5,8,9,10,51] [0,5,8,15502,15503])
 (.cond (.t 51) (.shut [15502,15503] (.aj [QL 53 4 5,Qm 54 10,Q 55 (.call 283 [.t 53,.t 54] [] [(2,15502),(3,15503)]),Qm 52 55,Qx 56 0 52,Qx 57 1 52,Qs 4 5 56] [0,2,3,5,8,9] [0,5,8,15502,15503])) (.skip))))))))))))
def bc.hd:C:= .seq (.seq (.aj [Qf 19 2 5,Ql 20 19,Q 21 (.len (.t 20)),Q 22 (.bin .gtr (.t 21) (kI 0))] [0,2,3,5,8,9,10,11,22] [0,5,8,15502,15503])
 (.cond (.t 22) (.seq (.gf [Qf 23 2 5,Ql 24 23,Qm 25 0,Qf 26 2 5,Ql 27 26,Q 28 (.len (.t 27)),Q 29 (.call 125 [.t 25,.t 28] [0] []),Qa 30 7 24 29,QL 31 7 30,
   Q 12 (.alloc [.int .i64 0,.str ⟨#[]⟩,.int .i64 0,.int .i64 0,.int .i64 0,.aO 4,.aO 1]),Qs 7 12 31] [[],[0],[],[],[3],[3,4],[2,3,4,5],lr 7,lr 8,[],lr 10] [0,2,3,5,8,9,11,12] [0,5,8,12,15502,15503])
 (.seq (.aj [Qf 32 0 12,Ql 33 32,Qm 10 33] [0,2,3,5,8,9,10,11,12] [0,5,8,12,15502,15503])
 (.seq (.aj [Qf 34 5 12,Ql 35 34,Q 36 (.len (.t 35)),Q 37 (.bin .gtr (.t 36) (kI 0))] [0,2,3,5,8,9,10,11,12,37] [0,5,8,12,15502,15503])
 (.cond (.t 37) (.gf [Qf 38 5 12,Ql 39 38,Qm 40 0,Qf 41 5 12,Ql 42 41,Q 43 (.len (.t 42)),Q 44 (.call 125 [.t 40,.t 43] [0] []),Qa 45 4 39 44,Qf 46 0 45,Ql 47 46,Qm 11 47] [[],[0],[],[],[3],[3,4],[2,3,4,5],lr 7,lr 8,lr 9,lr 10] [0,2,3,5,8,9,10,11] [0,5,8,15502,15503]) (.skip))))) (.skip)))
 (.seq (.aj [Qm 48 0,Q 49 (.call 125 [.t 48,kI 12] [0] []),Qm 13 49] [0,2,3,5,8,9,10,11,13] [0,5,8,15502,15503])
 (.block 2 bc.br))
def bc.l0:C:= .seq (.seq (.aj [Qm 14 9,Qm 15 2,Q 16 (.bin .lss (.t 14) (.t 15))] [0,2,3,5,8,9,16] [0,5,8,15502,15503])
 (.cond (.t 16) (.skip) (.exit 0)))
 (.seq (.block 1 (.seq (.aj [Qi 10 0] [0,2,3,5,8,9,10] [0,5,8,15502,15503])
 (.seq (.aj [Qi 11 0] [0,2,3,5,8,9,10,11] [0,5,8,15502,15503])
 bc.hd)))
 (.aj [Qm 17 9,Q 18 (.bin .add (.t 17) (kI 1)),Qm 9 18] [0,2,3,5,8,9] [0,5,8,15502,15503]))
def bc.b:C:= .seq (.aj [Qv 5 1,Q 8 (.alloc [.int .i64 0,.int .i64 0,.aO 7,.aO 1])] [0,2,3,5,8] [0,5,8,15502,15503])
 (.seq (.seq (.aj [Qi 9 0] [0,2,3,5,8,9] [0,5,8,15502,15503])
 (.block 0 (.loop bc.l0)))
 (.seq (.aj [QL 126 4 5,Qs 4 8 126] [8] [0,8,15502,15503])
 (.ret)))
def bc.m:Fn:={np:=4,body:=bc.b,res:=[.cell 8 true 4]}
def bc.k(M:Nat→Option Body):Prop:=M 244=some (.code bc.m)∧aG.k M∧eU.k M∧iD.k M∧dG.k M∧bZ.k M∧dI.k M∧dy.k M∧dz.k M∧cK.k M∧dK.k M
def iv.b:C:= .seq (.aj [Q 2 (.alloc [.int .i64 0,.int .i64 0,.aO 7,.aO 1])] [0,2] [0,2,11302,11303])
 (.seq (.aj [Qm 4 0,Q 5 (.call 125 [.t 4,kI 12] [0] []),Q 6 (.bin .add (kI 2) (.t 5)),Qm 3 6] [0,2,3] [0,2,11302,11303])
 (.seq (.aj [Qm 7 0,Qm 8 0,Q 9 (.call 125 [.t 8,kI 2] [0] []),Q 10 (.bin .add (kI 1) (.t 9)),Q 11 (.call 113 [.t 10] [] []),Qm 12 3,
   Q 13 (.call 244 [.t 7,.t 11,.t 12,kI 100] [0] [(2,11302),(3,11303)]),Qs 4 2 13] [2] [0,2,11302,11303])
 (.ret)))
def iv.m:Fn:={np:=1,body:=iv.b,res:=[.cell 2 true 4]}
def iv.k(M:Nat→Option Body):Prop:=M 188=some (.code iv.m)∧gn.k M∧aG.k M∧bc.k M
def cC.b:C:= .seq (.aj [Q 2 (.alloc [.int .i64 0,.int .i64 0,.aO 7,.aO 1])] [0,2] [0,2,44,11202,11203])
 (.seq (.aj [Qm 6 0,Q 7 (.call 125 [.t 6,kI 14] [0] []),Qm 3 7] [0,2,3] [0,2,44,11202,11203])
 (.seq (.aj [Qm 8 0,Q 9 (.call 125 [.t 8,kI 60] [0] []),Qm 4 9] [0,2,3,4] [0,2,44,11202,11203])
 (.seq (.aj [Qm 10 0,Q 11 (.call 188 [.t 10] [0] []),Q 12 (.call 219 [.t 11] [] [(2,11202),(3,11203)]),Q 5 (.alloc [.int .i64 0,.int .i64 0,.aO 7,.aO 1]),Qs 4 5 12] [0,2,3,4,5] [0,2,5,44,11202,11203])
 (.seq (.seq (.aj [Qm 13 3] [0,2,4,5,13] [0,2,5,44,11202,11203])
 (.block 0 (.seq (.aj [Q 15 (.bin .eql (.t 13) (kI 0)),Qm 14 15] [0,2,4,5,13,14] [0,2,5,44,11202,11203])
 (.cond (.t 14) (.aj [Qm 16 4,Q 17 (.bin .rem (.t 16) (kI 4)),Qf 18 0 5,Qs 1 18 17] [2,5] [0,2,5,44,11202,11203]) (.seq (.aj [Q 20 (.bin .eql (.t 13) (kI 1)),Qm 19 20] [0,2,4,5,13,19] [0,2,5,44,11202,11203])
 (.cond (.t 19) (.aj [Q 21 (.bL 1 4 [.int .i64 0] [(0,kI (-1)),(1,kI 0),(2,kI 100000),(3,kI 100001)]),Qm 22 4,Q 23 (.bin .rem (.t 22) (kI 4)),Qa 24 1 21 23,Ql 25 24,Qf 26 1 5,Qs 1 26 25] [2,5] [0,2,5,44,11202,11203]) (.seq (.aj [Q 28 (.bin .eql (.t 13) (kI 2)),Qm 27 28] [0,2,4,5,13,27] [0,2,5,44,11202,11203])
 (.cond (.t 27) (.seq (.aj [Qf 29 2 5,Ql 30 29,Q 31 (.len (.t 30)),Q 32 (.bin .gtr (.t 31) (kI 0))] [0,2,5,32] [0,2,5,44,11202,11203])
 (.cond (.t 32) (.gf [Qf 33 2 5,Ql 34 33,Qm 35 0,Q 36 (.call 173 [.t 35] [0] []),Q 37 (.lg 7 (.t 34) (kI 0)),Qs 7 37 36] [[],[0],[],[2],lr 4,lr 5] [2,5] [0,2,5,44,11202,11203]) (.skip))) (.seq (.aj [Q 39 (.bin .eql (.t 13) (kI 3)),Qm 38 39] [2,4,5,13,38] [0,2,5,44,11202,11203])
 (.cond (.t 38) (.aj [Qf 40 3 5,Ql 41 40,Qm 42 4,Q 43 (.bL 1 1 [.int .i64 0] [(0,.t 42)]),Q 44 (.app 1 8 (.t 41) (.t 43)),Qf 45 3 5,Qs 1 45 44] [2,5] [0,2,5,44,11202,11203]) (.seq (.aj [Q 47 (.bin .eql (.t 13) (kI 4)),Qm 46 47] [2,5,46] [0,2,5,44,11202,11203])
 (.cond (.t 46) (.seq (.aj [Qf 48 2 5,Ql 49 48,Q 50 (.len (.t 49)),Q 51 (.bin .gtr (.t 50) (kI 1))] [2,5,51] [0,2,5,44,11202,11203])
 (.cond (.t 51) (.gf [Qf 52 2 5,Ql 53 52,Qf 54 2 5,Ql 55 54,Q 56 (.lg 7 (.t 55) (kI 0)),Qf 57 1 56,Ql 58 57,Q 59 (.lg 7 (.t 53) (kI 1)),Qf 60 1 59,Qs 1 60 58] [[],[0],[],[2],[2,3],[2,3,4],[2,3,4,5],lr 7,lr 8,lr 9] [2,5] [0,2,5,44,11202,11203]) (.skip))) (.skip)))))))))))))
 (.seq (.aj [QL 61 4 5,Qs 4 2 61] [2] [0,2,44,11202,11203])
 (.ret))))))
def cC.m:Fn:={np:=1,body:=cC.b,res:=[.cell 2 true 4]}
def cC.k(M:Nat→Option Body):Prop:=M 443=some (.code cC.m)∧aG.k M∧cp.k M∧iv.k M∧cd.k M
def ij.b:C:= .seq (.aj [Qv 2 0,Qv 3 1,Q 4 (.alloc [.int .i64 0,.int .i64 0,.int .i64 0])] [2,3,4] [2,3,4])
 (.seq (.seq (.aj [Qf 5 1 3,QL 6 2 5,Qf 7 1 2,QL 8 2 7,Q 9 (.call 275 [.t 6,.t 8] [] []),Qm 10 9,Qg 11 (.bK 1 (.t 2)) 10 false,Qg 12 (.load true 2 (.t 11)) 10 false,
   Qg 13 (.bK 1 (.t 3)) 10 false,Qg 14 (.load true 2 (.t 13)) 10 false,Qg 15 (.call 275 [.t 12,.t 14] [] []) 10 false,Qg 16 (.not (.t 15)) 10 false,
   Qg 17 (.mv (.t 16)) 10 false,Qg 18 (.bK 0 (.t 3)) 17 true,Qg 19 (.load false 1 (.t 18)) 17 true,Qg 20 (.bK 0 (.t 2)) 17 true,Qg 21 (.load false 1 (.t 20)) 17 true,
   Qg 22 (.bin .gtr (.t 19) (.t 21)) 17 true,Qg 23 (.pick (.t 17) (.t 22) (kB false)) 10 false,Q 24 (.pick (.t 10) (kB true) (.t 23))] [2,3,4,24] [2,3,4])
 (.cond (.t 24) (.seq (.aj [QL 25 3 3,Qs 3 4 25] [4] [4])
 (.ret)) (.skip)))
 (.seq (.aj [QL 26 3 2,Qs 3 4 26] [4] [4])
 (.ret)))
def ij.m:Fn:={np:=2,body:=ij.b,res:=[.cell 4 true 3]}
def ij.k(M:Nat→Option Body):Prop:=M 485=some (.code ij.m)∧gm.k M
def ep.l0:C:= .seq (.seq (.aj [Qm 8 6,Qm 9 0,Q 10 (.len (.t 9)),Q 11 (.bin .lss (.t 8) (.t 10)),Qm 12 11,Qg 13 (.mv (.t 6)) 12 true,Qg 14 (.mv (.t 1)) 12 true,Qg 15 (.len (.t 14)) 12 true,
    Qg 16 (.bin .lss (.t 13) (.t 15)) 12 true,Q 17 (.pick (.t 12) (.t 16) (kB false))] [0,1,5,6,17] [7,31])
 (.cond (.t 17) (.skip) (.exit 0)))
 (.seq (.block 1 (.gf [Qm 20 5,Qm 21 0,Qm 22 6,Qa 23 3 21 22,QL 24 3 23,Qm 25 1,Qm 26 6,Qa 27 3 25 26,QL 28 3 27,Q 29 (.call 485 [.t 24,.t 28] [] []),
   Q 30 (.bL 3 1 [.int .i64 0,.int .i64 0,.int .i64 0] [(0,.t 29)]),Q 31 (.app 3 24 (.t 20) (.t 30)),Qm 5 31] [[],[],[],[1,2],[1,2,3],[],[],[5,6],[5,6,7],[1,2,3,4,5,6,7,8],[1,2,3,4,5,6,7,8,9],lr 11,lr 12] [0,1,5,6] [7,31]))
 (.aj [Qm 18 6,Q 19 (.bin .add (.t 18) (kI 1)),Qm 6 19] [0,1,5,6] [7,31]))
def ep.b:C:= .seq (.aj [Q 4 (.nil 3)] [0,1] [])
 (.seq (.aj [Q 7 (.bL 3 0 [.int .i64 0,.int .i64 0,.int .i64 0] []),Qm 5 7] [0,1,5] [7,31])
 (.seq (.seq (.aj [Qi 6 0] [0,1,5,6] [7,31])
 (.block 0 (.loop ep.l0)))
 (.seq (.aj [Qm 32 5,Qm 4 32] [4] [4,7,31])
 (.ret))))
def ep.m:Fn:={np:=2,body:=ep.b,res:=[.tmp 4]}
def ep.k(M:Nat→Option Body):Prop:=M 470=some (.code ep.m)∧ij.k M
def fH.b:C:= .seq (.aj [Qv 2 0,Qv 3 1,Q 4 (.alloc [.int .i64 0,.int .i64 0,.aO 3,.str ⟨#[]⟩])] [2,3,4] [2,3,4,11102,12300])
 (.seq (.seq (.aj [Qf 5 0 2,Ql 6 5,Qf 7 0 3,Ql 8 7,Q 9 (.bin .neq (.t 6) (.t 8))] [2,3,4,9] [2,3,4,11102,12300])
 (.cond (.t 9) (.seq (.aj [QL 10 4 2,Q 11 (.call 233 [.t 10] [] [(2,11102)]),Qs 4 4 11] [4] [4,11102,12300])
 (.ret)) (.skip)))
 (.seq (.gf [Qf 12 0 2,Ql 13 12,Qf 14 1 2,Ql 15 14,Qf 16 1 3,Ql 17 16,Q 18 (.max (.t 15) (.t 17)),Qf 19 2 2,Ql 20 19,Qf 21 2 3,Ql 22 21,
   Q 23 (.call 470 [.t 20,.t 22] [] [(0,12300)]),Qf 24 3 2,Ql 25 24,Qf 26 3 3,Ql 27 26,Q 28 (.max (.t 25) (.t 27)),
   Q 29 (.build [.int .i64 0,.int .i64 0,.aO 3,.str ⟨#[]⟩] [(0,1,.t 13),(1,1,.t 18),(2,1,.t 23),(3,1,.t 28)]),Qs 4 4 29] [[],[0],[],[2],[],[4],[2,3,4,5],[],[7],[],[9],[7,8,9,10],[],[12],[],[14],[12,13,14,15],lr 17,lr 18] [4] [4,11102,12300])
 (.ret)))
def fH.m:Fn:={np:=2,body:=fH.b,res:=[.cell 4 true 4]}
def fH.k(M:Nat→Option Body):Prop:=M 452=some (.code fH.m)∧eQ.k M∧ep.k M
def gI.b:C:= .seq (.aj [Qv 2 0,Qv 3 1,Q 4 (.alloc [.int .i64 0,.int .i64 0,.int .i64 0])] [2,3,4] [2,3,4])
 (.seq (.seq (.aj [Qf 5 1 2,QL 6 2 5,Qf 7 1 3,QL 8 2 7,Q 9 (.call 277 [.t 6,.t 8] [] []),Qm 10 9,Qg 11 (.bK 1 (.t 2)) 10 false,Qg 12 (.load true 2 (.t 11)) 10 false,
   Qg 13 (.bK 1 (.t 3)) 10 false,Qg 14 (.load true 2 (.t 13)) 10 false,Qg 15 (.eqs false [.int,.int] (.t 12) (.t 14)) 10 false,Qg 16 (.mv (.t 15)) 10 false,
   Qg 17 (.bK 0 (.t 2)) 16 true,Qg 18 (.load false 1 (.t 17)) 16 true,Qg 19 (.bK 0 (.t 3)) 16 true,Qg 20 (.load false 1 (.t 19)) 16 true,
   Qg 21 (.bin .geq (.t 18) (.t 20)) 16 true,Qg 22 (.pick (.t 16) (.t 21) (kB false)) 10 false,Q 23 (.pick (.t 10) (kB true) (.t 22))] [2,3,4,23] [2,3,4])
 (.cond (.t 23) (.seq (.aj [QL 24 3 2,Qs 3 4 24] [4] [4])
 (.ret)) (.skip)))
 (.seq (.aj [QL 25 3 3,Qs 3 4 25] [4] [4])
 (.ret)))
def gI.m:Fn:={np:=2,body:=gI.b,res:=[.cell 4 true 3]}
def gI.k(M:Nat→Option Body):Prop:=M 488=some (.code gI.m)∧iq.k M
def dY.l0:C:= .seq (.seq (.aj [Qm 8 6,Qm 9 0,Q 10 (.len (.t 9)),Q 11 (.bin .lss (.t 8) (.t 10)),Qm 12 11,Qg 13 (.mv (.t 6)) 12 true,Qg 14 (.mv (.t 1)) 12 true,Qg 15 (.len (.t 14)) 12 true,
    Qg 16 (.bin .lss (.t 13) (.t 15)) 12 true,Q 17 (.pick (.t 12) (.t 16) (kB false))] [0,1,5,6,17] [7,31])
 (.cond (.t 17) (.skip) (.exit 0)))
 (.seq (.block 1 (.gf [Qm 20 5,Qm 21 0,Qm 22 6,Qa 23 3 21 22,QL 24 3 23,Qm 25 1,Qm 26 6,Qa 27 3 25 26,QL 28 3 27,Q 29 (.call 488 [.t 24,.t 28] [] []),
   Q 30 (.bL 3 1 [.int .i64 0,.int .i64 0,.int .i64 0] [(0,.t 29)]),Q 31 (.app 3 24 (.t 20) (.t 30)),Qm 5 31] [[],[],[],[1,2],[1,2,3],[],[],[5,6],[5,6,7],[1,2,3,4,5,6,7,8],[1,2,3,4,5,6,7,8,9],lr 11,lr 12] [0,1,5,6] [7,31]))
 (.aj [Qm 18 6,Q 19 (.bin .add (.t 18) (kI 1)),Qm 6 19] [0,1,5,6] [7,31]))
def dY.b:C:= .seq (.aj [Q 4 (.nil 3)] [0,1] [])
 (.seq (.aj [Q 7 (.bL 3 0 [.int .i64 0,.int .i64 0,.int .i64 0] []),Qm 5 7] [0,1,5] [7,31])
 (.seq (.seq (.aj [Qi 6 0] [0,1,5,6] [7,31])
 (.block 0 (.loop dY.l0)))
 (.seq (.aj [Qm 32 5,Qm 4 32] [4] [4,7,31])
 (.ret))))
def dY.m:Fn:={np:=2,body:=dY.b,res:=[.tmp 4]}
def dY.k(M:Nat→Option Body):Prop:=M 472=some (.code dY.m)∧gI.k M
def fG.b:C:= .seq (.aj [Qv 2 0,Qv 3 1,Q 4 (.alloc [.int .i64 0,.int .i64 0,.aO 3,.str ⟨#[]⟩])] [2,3,4] [2,3,4,10702,11800])
 (.seq (.aj [QL 6 4 2,Q 7 (.call 238 [.t 6] [] [(2,10702)]),Q 5 (.alloc [.int .i64 0,.int .i64 0,.aO 3,.str ⟨#[]⟩]),Qs 4 5 7] [2,3,4,5] [2,3,4,5,10702,11800])
 (.seq (.seq (.aj [Qf 8 0 2,Ql 9 8,Qf 10 0 3,Ql 11 10,Q 12 (.bin .neq (.t 9) (.t 11))] [2,3,4,5,12] [2,3,4,5,10702,11800])
 (.cond (.t 12) (.seq (.aj [QL 13 4 5,Qs 4 4 13] [4] [4,10702,11800])
 (.ret)) (.skip)))
 (.seq (.aj [Qf 14 2 2,Ql 15 14,Qf 16 2 3,Ql 17 16,Q 18 (.call 472 [.t 15,.t 17] [] [(0,11800)]),Qf 19 2 5,Qs 1 19 18] [2,3,4,5] [2,3,4,5,10702,11800])
 (.seq (.seq (.aj [Qf 20 1 3,Ql 21 20,Qf 22 1 2,Ql 23 22,Q 24 (.bin .gtr (.t 21) (.t 23))] [2,3,4,5,24] [2,3,4,5,10702,11800])
 (.cond (.t 24) (.aj [Qf 25 1 3,Ql 26 25,Qf 27 1 5,Qs 1 27 26] [2,3,4,5] [2,3,4,5,10702,11800]) (.skip)))
 (.seq (.seq (.aj [Qf 28 3 3,Ql 29 28,Qf 30 3 2,Ql 31 30,Q 32 (.bin .gtr (.t 29) (.t 31))] [3,4,5,32] [3,4,5,10702,11800])
 (.cond (.t 32) (.aj [Qf 33 3 3,Ql 34 33,Qf 35 3 5,Qs 1 35 34] [4,5] [4,5,10702,11800]) (.skip)))
 (.seq (.aj [QL 36 4 5,Qs 4 4 36] [4] [4,10702,11800])
 (.ret)))))))
def fG.m:Fn:={np:=2,body:=fG.b,res:=[.cell 4 true 4]}
def fG.k(M:Nat→Option Body):Prop:=M 461=some (.code fG.m)∧fU.k M∧dY.k M
def aD.l0:C:= .seq (.seq (.aj [Qm 16 6,Qm 17 0,Q 18 (.len (.t 17)),Q 19 (.bin .lss (.t 16) (.t 18))] [0,1,5,6,19] [0])
 (.cond (.t 19) (.skip) (.exit 0)))
 (.seq (.block 1 (.seq (.aj [Qm 22 0,Qm 23 6,Qa 24 4 22 23,QL 25 4 24,Q 7 (.alloc [.int .i64 0,.int .i64 0,.aO 3,.str ⟨#[]⟩]),Qs 4 7 25] [0,1,5,6,7] [0,7])
 (.seq (.aj [Qm 26 1,QL 27 4 7,Q 28 (.oJ (.t 26) [.t 27]),Q 29 (.not (.t 28))] [0,1,5,6,7,29] [0,7])
 (.cond (.t 29) (.seq (.aj [Qm 30 0,Qm 31 5,QL 32 4 7,Qa 33 4 30 31,Qs 4 33 32] [0,1,5,6] [0])
 (.aj [Qm 34 5,Q 35 (.bin .add (.t 34) (kI 1)),Qm 5 35] [0,1,5,6] [0])) (.skip)))))
 (.aj [Qm 20 6,Q 21 (.bin .add (.t 20) (kI 1)),Qm 6 21] [0,1,5,6] [0]))
def aD.b:C:= .seq (.aj [Q 4 (.nil 4)] [0,1] [0])
 (.seq (.aj [Qm 8 0,Qm 9 1,Q 10 (.call 161 [.t 8,.t 9] [] []),Qm 5 10] [0,1,5] [0])
 (.seq (.seq (.aj [Qm 11 5,Q 12 (.bin .eql (.t 11) (kI (-1)))] [0,1,5,12] [0])
 (.cond (.t 12) (.seq (.aj [Qm 13 0,Qm 4 13] [4] [0,4])
 (.ret)) (.skip)))
 (.seq (.seq (.aj [Qm 14 5,Q 15 (.bin .add (.t 14) (kI 1)),Qm 6 15] [0,1,5,6] [0])
 (.block 0 (.loop aD.l0)))
 (.seq (.aj [Qm 36 0,Qm 37 5,Q 38 (.vU 4 (.t 36) (some (.t 37)) none none),Qn (.EU [.int .i64 0,.int .i64 0,.aO 3,.str ⟨#[]⟩] (.t 38))] [0,5] [0])
 (.seq (.aj [Qm 39 0,Qm 40 5,Q 41 (.vU 4 (.t 39) none (some (.t 40)) none),Qm 4 41] [4] [0,4])
 (.ret))))))
def aD.m:Fn:={np:=2,body:=aD.b,res:=[.tmp 4]}
def aD.k(M:Nat→Option Body):Prop:=M 453=some (.code aD.m)∧aB.k M
def gZ.b:C:= .seq (.aj [Qv 2 0,Qb 3 false] [1,2] [2])
 (.seq (.aj [Ql 4 1,Qf 5 0 2,Ql 6 5,Q 7 (.call 156 [.t 4,.t 6] [] []),Qm 3 7] [3] [])
 (.ret))
def gZ.m:Fn:={np:=2,body:=gZ.b,res:=[.tmp 3]}
def gZ.k(M:Nat→Option Body):Prop:=M 454=some (.code gZ.m)∧aL.k M
def au.l1:C:= .seq (.seq (.gf [Qm 18 9,Qm 19 1,Q 20 (.bin .gtr (.t 18) (.t 19)),Qm 21 20,Qg 22 (.mv (.t 3)) 21 true,Qg 23 (.mv (.t 0)) 21 true,Qg 24 (.mv (.t 9)) 21 true,
    Qg 25 (.lg 4 (.t 23) (.t 24)) 21 true,Qg 26 (.load true 4 (.t 25)) 21 true,Qg 27 (.mv (.t 0)) 21 true,Qg 28 (.mv (.t 9)) 21 true,Qg 29 (.bin .sub (.t 28) (kI 1)) 21 true,
    Qg 30 (.lg 4 (.t 27) (.t 29)) 21 true,Qg 31 (.load true 4 (.t 30)) 21 true,Qg 32 (.oJ (.t 22) [.t 26,.t 31]) 21 true,Qg 33 (.bin .lss (.t 32) (kI 0)) 21 true,
    Q 34 (.pick (.t 21) (.t 33) (kB false))] [[],[],[0,1],[0,1,2],lr 4,lr 4,lr 4,lr 4++[5,6],lr 4++[5,6,7],lr 4,lr 4,lr 4++[10],lr 4++[9,10,11],lr 4++[9,10,11,12],lr 14,lr 15,lr 16] [0,1,2,3,8,9,34] [0])
 (.cond (.t 34) (.skip) (.exit 2)))
 (.seq (.block 3 (.gf [Qm 37 0,Qm 38 9,Qm 39 0,Qm 40 9,Q 41 (.bin .sub (.t 40) (kI 1)),Qm 42 0,Qm 43 9,Q 44 (.bin .sub (.t 43) (kI 1)),Qa 45 4 42 44,QL 46 4 45,Qm 47 0,Qm 48 9,Qa 49 4 47 48,
   QL 50 4 49,Qa 51 4 37 38,Qs 4 51 46,Qa 52 4 39 41,Qs 4 52 50] [[],[],[],[],[3],[],[],[6],[5,6,7],[5,6,7,8],[],[],[10,11],[10,11,12],[0,1,5,6,7,8,9,10,11,12,13],[0,1,5,6,7,8,9,10,11,12,13,14],lr 16,lr 17] [0,1,2,3,8,9] [0]))
 (.aj [Qm 35 9,Q 36 (.bin .sub (.t 35) (kI 1)),Qm 9 36] [0,1,2,3,8,9] [0]))
def au.l0:C:= .seq (.seq (.aj [Qm 12 8,Qm 13 2,Q 14 (.bin .lss (.t 12) (.t 13))] [0,1,2,3,8,14] [0])
 (.cond (.t 14) (.skip) (.exit 0)))
 (.seq (.block 1 (.seq (.aj [Qm 17 8,Qm 9 17] [0,1,2,3,8,9] [0])
 (.block 2 (.loop au.l1))))
 (.aj [Qm 15 8,Q 16 (.bin .add (.t 15) (kI 1)),Qm 8 16] [0,1,2,3,8] [0]))
def au.b:C:= .seq (.aj [Qm 10 1,Q 11 (.bin .add (.t 10) (kI 1)),Qm 8 11] [0,1,2,3,8] [0])
 (.block 0 (.loop au.l0))
def au.m:Fn:={np:=4,body:=au.b,res:=[]}
def au.k(M:Nat→Option Body):Prop:=M 486=some (.code au.m)
def aR.l0:C:= .seq (.seq (.aj [Qm 11 8,Qm 12 1,Q 13 (.bin .leq (.t 11) (.t 12))] [0,1,2,6,7,8,13] [0])
 (.cond (.t 13) (.skip) (.exit 0)))
 (.block 1 (.seq (.aj [Qm 14 0,Qm 15 7,Qm 16 8,Qm 17 2,Q 18 (.call 486 [.t 14,.t 15,.t 16,.t 17] [0] [])] [0,1,2,6,8] [0])
 (.seq (.aj [Qm 19 8,Qm 7 19] [0,1,2,6,7,8] [0])
 (.aj [Qm 20 8,Qm 21 6,Q 22 (.bin .add (.t 20) (.t 21)),Qm 8 22] [0,1,2,6,7,8] [0]))))
def aR.l2:C:= .seq (.seq (.aj [Qm 33 8,Qm 34 1,Q 35 (.bin .leq (.t 33) (.t 34))] [0,1,2,6,7,8,35] [0])
 (.cond (.t 35) (.skip) (.exit 4)))
 (.block 5 (.seq (.aj [Qm 36 0,Qm 37 7,Qm 38 7,Qm 39 6,Q 40 (.bin .add (.t 38) (.t 39)),Qm 41 8,Qm 42 2,Q 43 (.call 487 [.t 36,.t 37,.t 40,.t 41,.t 42] [0] [])] [0,1,2,6,8] [0])
 (.seq (.aj [Qm 44 8,Qm 7 44] [0,1,2,6,7,8] [0])
 (.aj [Qm 45 8,Qm 46 6,Q 47 (.bin .mul (kI 2) (.t 46)),Q 48 (.bin .add (.t 45) (.t 47)),Qm 8 48] [0,1,2,6,7,8] [0]))))
def aR.l1:C:= .seq (.seq (.aj [Qm 28 6,Qm 29 1,Q 30 (.bin .lss (.t 28) (.t 29))] [0,1,2,6,30] [0])
 (.cond (.t 30) (.skip) (.exit 2)))
 (.block 3 (.seq (.aj [Qm 31 6,Q 32 (.bin .mul (kI 2) (.t 31)),Qi 7 0,Qm 8 32] [0,1,2,6,7,8] [0])
 (.seq (.block 4 (.loop aR.l2))
 (.seq (.seq (.aj [Qm 49 7,Qm 50 6,Q 51 (.bin .add (.t 49) (.t 50)),Qm 9 51] [0,1,2,6,7,9] [0])
 (.seq (.aj [Qm 52 9,Qm 53 1,Q 54 (.bin .lss (.t 52) (.t 53))] [0,1,2,6,7,9,54] [0])
 (.cond (.t 54) (.aj [Qm 55 0,Qm 56 7,Qm 57 9,Qm 58 1,Qm 59 2,Q 60 (.call 487 [.t 55,.t 56,.t 57,.t 58,.t 59] [0] [])] [0,1,2,6] [0]) (.skip))))
 (.aj [Qm 61 6,Q 62 (.bin .mul (.t 61) (kI 2)),Qm 6 62] [0,1,2,6] [0])))))
def aR.b:C:= .seq (.aj [Qi 6 20] [0,1,2,6] [0])
 (.seq (.aj [Qm 10 6,Qi 7 0,Qm 8 10] [0,1,2,6,7,8] [0])
 (.seq (.block 0 (.loop aR.l0))
 (.seq (.aj [Qm 23 0,Qm 24 7,Qm 25 1,Qm 26 2,Q 27 (.call 486 [.t 23,.t 24,.t 25,.t 26] [0] [])] [0,1,2,6] [0])
 (.block 2 (.loop aR.l1)))))
def aR.m:Fn:={np:=3,body:=aR.b,res:=[]}
def aR.k(M:Nat→Option Body):Prop:=M 471=some (.code aR.m)∧au.k M
def aZ.b:C:= .aj [Qm 4 0,Qm 5 0,Q 6 (.len (.t 5)),Qm 7 1,Q 8 (.call 471 [.t 4,.t 6,.t 7] [0] [])] [] [0]
def aZ.m:Fn:={np:=2,body:=aZ.b,res:=[]}
def aZ.k(M:Nat→Option Body):Prop:=M 455=some (.code aZ.m)∧aR.k M
def fp.b:C:= .seq (.aj [Qi 4 0] [0,1] [])
 (.seq (.block 0 (.seq (.aj [Qm 6 0,Qm 7 1,Q 8 (.bin .lss (.t 6) (.t 7)),Qm 5 8] [0,1,5] [])
 (.cond (.t 5) (.seq (.aj [Qi 4 (-1)] [4] [])
 (.ret)) (.seq (.aj [Qm 10 0,Qm 11 1,Q 12 (.bin .gtr (.t 10) (.t 11)),Qm 9 12] [9] [])
 (.cond (.t 9) (.seq (.aj [Qi 4 1] [4] [])
 (.ret)) (.skip))))))
 (.seq (.aj [Qi 4 0] [4] [])
 (.ret)))
def fp.m:Fn:={np:=2,body:=fp.b,res:=[.tmp 4]}
def fp.k(M:Nat→Option Body):Prop:=M 457=some (.code fp.m)
def gY.b:C:= .seq (.aj [Qv 2 0,Qv 3 1,Qi 4 0] [2,3] [2,3])
 (.seq (.aj [Qf 5 0 2,Ql 6 5,Qf 7 0 3,Ql 8 7,Q 9 (.call 457 [.t 6,.t 8] [] []),Qm 4 9] [4] [])
 (.ret))
def gY.m:Fn:={np:=2,body:=gY.b,res:=[.tmp 4]}
def gY.k(M:Nat→Option Body):Prop:=M 456=some (.code gY.m)∧fp.k M
def gX.b:C:= .seq (.aj [Qv 2 0,Qv 3 1,Qi 4 0] [2,3] [2,3])
 (.seq (.aj [Qf 5 1 2,Ql 6 5,Qf 7 1 3,Ql 8 7,Q 9 (.call 457 [.t 6,.t 8] [] []),Qm 4 9] [4] [])
 (.ret))
def gX.m:Fn:={np:=2,body:=gX.b,res:=[.tmp 4]}
def gX.k(M:Nat→Option Body):Prop:=M 458=some (.code gX.m)∧fp.k M
def b6.l0:C:= .seq (.aj [Q 21 (.bin .lss (.t 20) (.t 19))] [2,3,6,18,19,20,21] [2,3,16,41,59,16800])
 (.seq (.cond (.t 21) (.skip) (.exit 0))
 (.seq (.block 1 (.seq (.aj [Qa 22 4 18 20,QL 23 4 22,Q 8 (.alloc [.int .i64 0,.int .i64 0,.aO 3,.str ⟨#[]⟩]),Qs 4 8 23] [2,3,6,8,18,19,20] [2,3,8,16,41,59,16800])
 (.seq (.seq (.aj [QL 24 7 3,Qf 25 0 8,Ql 26 25,Q 27 (.call 72 [.t 24,.t 26] [] []),Qm 9 27] [2,3,6,8,9,18,19,20] [2,3,8,16,41,59,16800])
 (.seq (.aj [Qm 28 9,Q 29 (.bin .geq (.t 28) (kI 0))] [2,3,6,8,9,18,19,20,29] [2,3,8,16,41,59,16800])
 (.cond (.t 29) (.gf [QL 30 4 8,Qf 31 5 3,Ql 32 31,Qm 33 9,Qa 34 4 32 33,QL 35 4 34,Q 36 (.call 452 [.t 30,.t 35] [] []),Qs 4 8 36] [[],[],[1],[],[1,2,3],[1,2,3,4],lr 6,lr 7] [2,3,6,8,18,19,20] [2,3,8,16,41,59,16800]) (.skip))))
 (.aj [Qm 37 6,QL 38 4 8,Q 39 (.call 233 [.t 38] [] []),Q 40 (.bL 4 1 [.int .i64 0,.int .i64 0,.aO 3,.str ⟨#[]⟩] [(0,.t 39)]),Q 41 (.app 4 56 (.t 37) (.t 40)),Qm 6 41] [2,3,6,18,19,20] [2,3,16,41,59,16800]))))
 (.aj [Q 42 (.bin .add (.t 20) (kI 1)),Qm 20 42] [2,3,6,18,19,20] [2,3,16,41,59,16800])))
def b6.l1:C:= .seq (.aj [Q 47 (.bin .lss (.t 46) (.t 45))] [2,3,6,44,45,46,47] [2,3,16,41,59,16800])
 (.seq (.cond (.t 47) (.skip) (.exit 2))
 (.seq (.block 3 (.seq (.aj [Qa 48 4 44 46,QL 49 4 48,Q 11 (.alloc [.int .i64 0,.int .i64 0,.aO 3,.str ⟨#[]⟩]),Qs 4 11 49] [2,3,6,11,44,45,46] [2,3,11,16,41,59,16800])
 (.seq (.aj [QL 50 7 2,Qf 51 0 11,Ql 52 51,Q 53 (.call 20 [.t 50,.t 52] [] []),Q 54 (.not (.t 53))] [2,3,6,11,44,45,46,54] [2,3,11,16,41,59,16800])
 (.cond (.t 54) (.aj [Qm 55 6,QL 56 4 11,Q 57 (.call 233 [.t 56] [] []),Q 58 (.bL 4 1 [.int .i64 0,.int .i64 0,.aO 3,.str ⟨#[]⟩] [(0,.t 57)]),Q 59 (.app 4 56 (.t 55) (.t 58)),Qm 6 59] [2,3,6,44,45,46] [2,3,16,41,59,16800]) (.skip)))))
 (.aj [Q 60 (.bin .add (.t 46) (kI 1)),Qm 46 60] [2,3,6,44,45,46] [2,3,16,41,59,16800])))
def b6.l2:C:= .seq (.aj [Q 79 (.bin .lss (.t 78) (.t 77))] [2,3,6,13,76,77,78,79] [2,3,16,41,59,16800])
 (.seq (.cond (.t 79) (.skip) (.exit 4))
 (.seq (.block 5 (.seq (.aj [Qm 80 78,Qa 81 4 76 78,QL 82 4 81,Q 15 (.alloc [.int .i64 0,.int .i64 0,.aO 3,.str ⟨#[]⟩]),Qm 14 80,Qs 4 15 82] [2,3,6,13,14,15,76,77,78] [2,3,15,16,41,59,16800])
 (.seq (.aj [QL 83 7 2,Qf 84 0 15,Ql 85 84,Q 86 (.call 20 [.t 83,.t 85] [] []),Qm 87 86,Qg 88 (.load true 7 (.t 2)) 87 true,Qg 89 (.load true 7 (.t 3)) 87 true,
   Qg 90 (.bK 0 (.t 15)) 87 true,Qg 91 (.load false 1 (.t 90)) 87 true,Qg 92 (.call 23 [.t 88,.t 89,.t 91] [] []) 87 true,Qg 93 (.not (.t 92)) 87 true,
   Q 94 (.pick (.t 87) (.t 93) (kB false)),Qm 95 94,Qg 96 (.load true 7 (.t 3)) 95 false,Qg 97 (.bK 0 (.t 15)) 95 false,Qg 98 (.load false 1 (.t 97)) 95 false,
   Qg 99 (.call 20 [.t 96,.t 98] [] []) 95 false,Qg 100 (.mv (.t 99)) 95 false,Qg 101 (.load true 7 (.t 3)) 100 true,Qg 102 (.load true 7 (.t 2)) 100 true,
   Qg 103 (.bK 0 (.t 15)) 100 true,Qg 104 (.load false 1 (.t 103)) 100 true,Qg 105 (.call 23 [.t 101,.t 102,.t 104] [] []) 100 true,Qg 106 (.not (.t 105)) 100 true,
   Qg 107 (.pick (.t 100) (.t 106) (kB false)) 95 false,Q 108 (.pick (.t 95) (kB true) (.t 107))] [2,3,6,13,14,76,77,78,108] [2,3,16,41,59,16800])
 (.cond (.t 108) (.seq (.aj [Qm 109 6,Qm 110 14,Qm 111 13,Qa 112 4 109 110,Qf 113 1 112,Qs 1 113 111] [2,3,6,13,76,77,78] [2,3,16,41,59,16800])
 (.aj [Qm 114 13,Q 115 (.bin .add (.t 114) (kI 1)),Qm 13 115] [2,3,6,13,76,77,78] [2,3,16,41,59,16800])) (.skip)))))
 (.aj [Q 116 (.bin .add (.t 78) (kI 1)),Qm 78 116] [2,3,6,13,76,77,78] [2,3,16,41,59,16800])))
def b6.b:C:= .seq (.aj [Qv 2 0,Qv 3 1,Q 4 (.nil 4),Qi 5 0] [2,3] [2,3])
 (.seq (.aj [Q 16 (.bL 4 0 [.int .i64 0,.int .i64 0,.aO 3,.str ⟨#[]⟩] []),Qm 6 16] [2,3,6] [2,3,16,41,59,16800])
 (.seq (.seq (.aj [Qf 17 5 2,Ql 18 17,Q 19 (.len (.t 18)),Qi 20 0] [2,3,6,18,19,20] [2,3,16,41,59,16800])
 (.block 0 (.loop b6.l0)))
 (.seq (.seq (.aj [Qf 43 5 3,Ql 44 43,Q 45 (.len (.t 44)),Qi 46 0] [2,3,6,44,45,46] [2,3,16,41,59,16800])
 (.block 2 (.loop b6.l1)))
 (.seq (.aj [Qf 61 6 2,Ql 62 61,Qf 63 6 3,Ql 64 63,Q 65 (.call 44 [.t 62,.t 64] [] []),Q 12 (.alloc [.aO 1]),Qs 1 12 65] [2,3,6,12] [2,3,12,16,41,59,16800])
 (.seq (.shut [12] (.aj [Qm 66 6,Q 67 (.tF 454 [.t 12]),Q 68 (.call 453 [.t 66,.t 67] [0] [(0,16800)]),Qm 6 68] [2,3,6] [2,3,16,41,59,16800]))
 (.seq (.aj [Qm 69 6,Q 70 (.call 455 [.t 69,.fn 456] [0] [])] [2,3,6] [2,3,16,41,59,16800])
 (.seq (.aj [Qf 71 4 2,Ql 72 71,Qf 73 4 3,Ql 74 73,Q 75 (.max (.t 72) (.t 74)),Qm 13 75] [2,3,6,13] [2,3,16,41,59,16800])
 (.seq (.seq (.aj [Qm 76 6,Q 77 (.len (.t 76)),Qi 78 0] [2,3,6,13,76,77,78] [2,3,16,41,59,16800])
 (.block 4 (.loop b6.l2)))
 (.seq (.aj [Qm 117 6,Q 118 (.call 455 [.t 117,.fn 458] [0] [])] [6,13] [16,41,59,16800])
 (.seq (.aj [Qm 119 6,Qm 120 13,Qm 4 119,Qm 5 120] [4,5] [4,16,41,59,16800])
 (.ret)))))))))))
def b6.m:Fn:={np:=2,body:=b6.b,res:=[.tmp 4,.tmp 5]}
def b6.k(M:Nat→Option Body):Prop:=M 437=some (.code b6.m)∧jf.k M∧dQ.k M∧fI.k M∧cJ.k M∧eQ.k M∧fH.k M∧aD.k M∧gZ.k M∧aZ.k M∧gY.k M∧gX.k M
def gV.b:C:= .seq (.aj [Qv 2 0,Qv 3 1,Q 4 (.alloc [.int .i64 0,.str ⟨#[]⟩,.int .i64 0,.int .i64 0,.int .i64 0,.aO 4,.aO 1])] [2,3,4] [2,3,4,11205,11206,12300,15400])
 (.seq (.seq (.aj [Qf 6 0 2,Ql 7 6,Qf 8 0 3,Ql 9 8,Q 10 (.bin .neq (.t 7) (.t 9))] [2,3,4,10] [2,3,4,11205,11206,12300,15400])
 (.cond (.t 10) (.seq (.aj [QL 11 7 2,Q 12 (.call 155 [.t 11] [] [(5,11205),(6,11206)]),Qs 7 4 12] [4] [4,11205,11206,12300,15400])
 (.ret)) (.skip)))
 (.seq (.gf [Qf 13 0 2,Ql 14 13,Qf 15 1 2,Ql 16 15,Qf 17 2 2,QL 18 2 17,Qf 19 6 2,Ql 20 19,Qf 21 6 3,Ql 22 21,Q 23 (.call 44 [.t 20,.t 22] [] [(0,12300)]),
   Q 24 (.build [.int .i64 0,.str ⟨#[]⟩,.int .i64 0,.int .i64 0,.int .i64 0,.aO 4,.aO 1] [(0,1,.t 14),(1,1,.t 16),(2,2,.t 18),(6,1,.t 23)]),
   Q 5 (.alloc [.int .i64 0,.str ⟨#[]⟩,.int .i64 0,.int .i64 0,.int .i64 0,.aO 4,.aO 1]),Qs 7 5 24] [[],[0],[],[2],[],[4],[],[6],[],[8],[6,7,8,9],lr 11,[],lr 13] [2,3,4,5] [2,3,4,5,11205,11206,12300,15400])
 (.seq (.seq (.aj [Qf 25 2 3,QL 26 2 25,Qf 27 2 2,QL 28 2 27,Q 29 (.call 275 [.t 26,.t 28] [] []),Qm 30 29,Qg 31 (.bK 2 (.t 2)) 30 false,Qg 32 (.load true 2 (.t 31)) 30 false,
   Qg 33 (.bK 2 (.t 3)) 30 false,Qg 34 (.load true 2 (.t 33)) 30 false,Qg 35 (.call 275 [.t 32,.t 34] [] []) 30 false,Qg 36 (.not (.t 35)) 30 false,
   Qg 37 (.mv (.t 36)) 30 false,Qg 38 (.bK 1 (.t 3)) 37 true,Qg 39 (.load false 1 (.t 38)) 37 true,Qg 40 (.bK 1 (.t 2)) 37 true,Qg 41 (.load false 1 (.t 40)) 37 true,
   Qg 42 (.bin .gtr (.t 39) (.t 41)) 37 true,Qg 43 (.pick (.t 37) (.t 42) (kB false)) 30 false,Q 44 (.pick (.t 30) (kB true) (.t 43))] [2,3,4,5,44] [2,3,4,5,11205,11206,12300,15400])
 (.cond (.t 44) (.seq (.aj [Qf 45 1 3,Ql 46 45,Qf 47 1 5,Qs 1 47 46] [2,3,4,5] [2,3,4,5,11205,11206,12300,15400])
 (.aj [Qf 48 2 3,QL 49 2 48,Qf 50 2 5,Qs 2 50 49] [2,3,4,5] [2,3,4,5,11205,11206,12300,15400])) (.skip)))
 (.seq (.aj [QL 52 7 2,QL 53 7 3,Q 54 (.call 437 [.t 52,.t 53] [] [(0,15400)]),Qm 51 54,Qx 55 0 51,Qx 56 1 51,Qf 57 5 5,Qs 1 57 55,Qf 58 4 5,Qs 1 58 56] [4,5] [4,5,11205,11206,12300,15400])
 (.seq (.aj [QL 59 7 5,Qs 7 4 59] [4] [4,11205,11206,12300,15400])
 (.ret))))))
def gV.m:Fn:={np:=2,body:=gV.b,res:=[.cell 4 true 7]}
def gV.k(M:Nat→Option Body):Prop:=M 401=some (.code gV.m)∧fI.k M∧cA.k M∧gm.k M∧b6.k M
def hZ.b:C:= .seq (.aj [Qv 2 0,Qv 3 1,Qi 4 0] [2,3] [2,3])
 (.seq (.seq (.aj [Qf 5 4 2,Ql 6 5,Qf 7 4 3,Ql 8 7,Q 9 (.bin .gtr (.t 6) (.t 8))] [2,3,9] [2,3])
 (.cond (.t 9) (.seq (.aj [Qf 10 4 2,Ql 11 10,Qm 4 11] [4] [])
 (.ret)) (.skip)))
 (.seq (.aj [Qf 12 4 3,Ql 13 12,Qm 4 13] [4] [])
 (.ret)))
def hZ.m:Fn:={np:=2,body:=hZ.b,res:=[.tmp 4]}
def hZ.k(M:Nat→Option Body):Prop:=M 459=some (.code hZ.m)
def dn.l0:C:= .seq (.seq (.aj [Qm 9 6,Qf 10 5 2,Ql 11 10,Q 12 (.len (.t 11)),Q 13 (.bin .lss (.t 9) (.t 12))] [2,3,5,6,13] [2,3,8])
 (.cond (.t 13) (.skip) (.exit 0)))
 (.seq (.block 1 (.seq (.aj [Qm 16 5,Qf 17 5 2,Ql 18 17,Qm 19 6,Qa 20 4 18 19,Qf 21 0 20,Ql 22 21,Q 23 (.call 132 [.t 16,.t 22] [] []),Q 24 (.not (.t 23))] [2,3,5,6,24] [2,3,8])
 (.cond (.t 24) (.aj [Qm 25 5,Qf 26 5 2,Ql 27 26,Qm 28 6,Qa 29 4 27 28,Qf 30 0 29,Ql 31 30,Q 32 (.call 133 [.t 25,.t 31] [] [(0,8)]),Qm 5 32] [2,3,5,6] [2,3,8]) (.skip))))
 (.aj [Qm 14 6,Q 15 (.bin .add (.t 14) (kI 1)),Qm 6 15] [2,3,5,6] [2,3,8]))
def dn.l1:C:= .seq (.seq (.aj [Qm 33 7,Qf 34 5 3,Ql 35 34,Q 36 (.len (.t 35)),Q 37 (.bin .lss (.t 33) (.t 36))] [3,5,7,37] [3,8])
 (.cond (.t 37) (.skip) (.exit 2)))
 (.seq (.block 3 (.seq (.aj [Qm 40 5,Qf 41 5 3,Ql 42 41,Qm 43 7,Qa 44 4 42 43,Qf 45 0 44,Ql 46 45,Q 47 (.call 132 [.t 40,.t 46] [] []),Q 48 (.not (.t 47))] [3,5,7,48] [3,8])
 (.cond (.t 48) (.aj [Qm 49 5,Qf 50 5 3,Ql 51 50,Qm 52 7,Qa 53 4 51 52,Qf 54 0 53,Ql 55 54,Q 56 (.call 133 [.t 49,.t 55] [] [(0,8)]),Qm 5 56] [3,5,7] [3,8]) (.skip))))
 (.aj [Qm 38 7,Q 39 (.bin .add (.t 38) (kI 1)),Qm 7 39] [3,5,7] [3,8]))
def dn.b:C:= .seq (.aj [Qv 2 0,Qv 3 1,Q 4 (.nil 1)] [2,3] [2,3])
 (.seq (.aj [Q 8 (.bL 1 0 [.int .i64 0] []),Qm 5 8] [2,3,5] [2,3,8])
 (.seq (.seq (.aj [Qi 6 0] [2,3,5,6] [2,3,8])
 (.block 0 (.loop dn.l0)))
 (.seq (.seq (.aj [Qi 7 0] [3,5,7] [3,8])
 (.block 2 (.loop dn.l1)))
 (.seq (.aj [Qm 57 5,Qm 4 57] [4] [4,8])
 (.ret)))))
def dn.m:Fn:={np:=2,body:=dn.b,res:=[.tmp 4]}
def dn.k(M:Nat→Option Body):Prop:=M 460=some (.code dn.m)∧bl.k M∧b7.k M
def cV.l0:C:= .seq (.seq (.aj [Qm 9 6,Qm 10 0,Q 11 (.len (.t 10)),Q 12 (.bin .lss (.t 9) (.t 11))] [0,3,5,6,12] [3,8,29,33,54])
 (.cond (.t 12) (.skip) (.exit 0)))
 (.seq (.block 1 (.seq (.gf [Qm 15 0,Qm 16 6,Qa 17 4 15 16,Qf 18 1 17,Ql 19 18,Qf 20 1 3,Ql 21 20,Q 22 (.bin .leq (.t 19) (.t 21))] [[],[],[0,1],[0,1,2],lr 4,[],[5],lr 7] [0,3,5,6,22] [3,8,29,33,54])
 (.cond (.t 22) (.aj [Qm 23 5,Qm 24 0,Qm 25 6,Qa 26 4 24 25,QL 27 4 26,Q 28 (.bL 4 1 [.int .i64 0,.int .i64 0,.aO 3,.str ⟨#[]⟩] [(0,.t 27)]),Q 29 (.app 4 56 (.t 23) (.t 28)),Qm 5 29] [0,3,5,6] [3,8,29,33,54]) (.skip))))
 (.aj [Qm 13 6,Q 14 (.bin .add (.t 13) (kI 1)),Qm 6 14] [0,3,5,6] [3,8,29,33,54]))
def cV.l1:C:= .seq (.seq (.aj [Qm 34 7,Qm 35 0,Q 36 (.len (.t 35)),Q 37 (.bin .lss (.t 34) (.t 36))] [0,3,5,7,37] [3,8,29,33,54])
 (.cond (.t 37) (.skip) (.exit 2)))
 (.seq (.block 3 (.seq (.gf [Qm 40 0,Qm 41 7,Qa 42 4 40 41,Qf 43 1 42,Ql 44 43,Qf 45 1 3,Ql 46 45,Q 47 (.bin .gtr (.t 44) (.t 46))] [[],[],[0,1],[0,1,2],lr 4,[],[5],lr 7] [0,3,5,7,47] [3,8,29,33,54])
 (.cond (.t 47) (.aj [Qm 48 5,Qm 49 0,Qm 50 7,Qa 51 4 49 50,QL 52 4 51,Q 53 (.bL 4 1 [.int .i64 0,.int .i64 0,.aO 3,.str ⟨#[]⟩] [(0,.t 52)]),Q 54 (.app 4 56 (.t 48) (.t 53)),Qm 5 54] [0,3,5,7] [3,8,29,33,54]) (.skip))))
 (.aj [Qm 38 7,Q 39 (.bin .add (.t 38) (kI 1)),Qm 7 39] [0,3,5,7] [3,8,29,33,54]))
def cV.b:C:= .seq (.aj [Qv 3 1,Q 4 (.nil 4)] [0,3] [3])
 (.seq (.aj [Q 8 (.bL 4 0 [.int .i64 0,.int .i64 0,.aO 3,.str ⟨#[]⟩] []),Qm 5 8] [0,3,5] [3,8,29,33,54])
 (.seq (.seq (.aj [Qi 6 0] [0,3,5,6] [3,8,29,33,54])
 (.block 0 (.loop cV.l0)))
 (.seq (.aj [Qm 30 5,QL 31 4 3,Q 32 (.bL 4 1 [.int .i64 0,.int .i64 0,.aO 3,.str ⟨#[]⟩] [(0,.t 31)]),Q 33 (.app 4 56 (.t 30) (.t 32)),Qm 5 33] [0,3,5] [3,8,29,33,54])
 (.seq (.seq (.aj [Qi 7 0] [0,3,5,7] [3,8,29,33,54])
 (.block 2 (.loop cV.l1)))
 (.seq (.aj [Qm 55 5,Qm 4 55] [4] [4,8,29,33,54])
 (.ret))))))
def cV.m:Fn:={np:=2,body:=cV.b,res:=[.tmp 4]}
def cV.k(M:Nat→Option Body):Prop:=M 462=some (.code cV.m)
def cY.l0:C:= .seq (.seq (.aj [Qm 21 9,Qm 22 8,Q 23 (.len (.t 22)),Q 24 (.bin .lss (.t 21) (.t 23))] [2,3,6,7,8,9,24] [2,3,17])
 (.cond (.t 24) (.skip) (.exit 0)))
 (.seq (.block 1 (.seq (.aj [Qm 27 8,Qm 28 9,Qa 29 1 27 28,Ql 30 29,Qm 10 30] [2,3,6,7,8,9,10] [2,3,17])
 (.seq (.seq (.aj [Qf 31 6 2,Ql 32 31,Qm 33 10,Q 34 (.call 132 [.t 32,.t 33] [] []),Qm 35 34,Qg 36 (.bK 6 (.t 3)) 35 false,Qg 37 (.load false 1 (.t 36)) 35 false,
   Qg 38 (.mv (.t 10)) 35 false,Qg 39 (.call 132 [.t 37,.t 38] [] []) 35 false,Q 40 (.pick (.t 35) (kB true) (.t 39))] [2,3,6,7,8,9,10,40] [2,3,17])
 (.cond (.t 40) (.exit 1) (.skip)))
 (.seq (.aj [QL 41 7 2,Qm 42 10,Q 43 (.call 91 [.t 41,.t 42] [] []),Qm 11 43] [2,3,6,7,8,9,10,11] [2,3,17])
 (.seq (.aj [QL 44 7 3,Qm 45 10,Q 46 (.call 91 [.t 44,.t 45] [] []),Qm 12 46] [2,3,6,7,8,9,10,11,12] [2,3,17])
 (.seq (.aj [Q 47 (.build [.int .i64 0,.int .i64 0,.aO 3,.str ⟨#[]⟩] []),Q 13 (.alloc [.int .i64 0,.int .i64 0,.aO 3,.str ⟨#[]⟩]),Qs 4 13 47] [2,3,6,7,8,9,10,11,12,13] [2,3,13,17])
 (.seq (.block 2 (.seq (.aj [Qm 55 11,Q 56 (.bin .geq (.t 55) (kI 0)),Qm 57 56,Qg 58 (.mv (.t 12)) 57 true,Qg 59 (.bin .geq (.t 58) (kI 0)) 57 true,Q 60 (.pick (.t 57) (.t 59) (kB false)),Qm 54 60] [2,3,6,7,8,9,10,11,12,13,54] [2,3,13,17])
 (.cond (.t 54) (.gf [Qf 61 5 2,Ql 62 61,Qm 63 11,Qa 64 4 62 63,QL 65 4 64,Qf 66 5 3,Ql 67 66,Qm 68 12,Qa 69 4 67 68,QL 70 4 69,Q 71 (.call 461 [.t 65,.t 70] [] []),Qs 4 13 71] [[],[0],[],[0,1,2],lr 4,[],[5],[],[5,6,7],[5,6,7,8],lr 10,lr 11] [2,3,6,7,8,9,10,11,12,13] [2,3,13,17]) (.seq (.aj [Qm 73 11,Q 74 (.bin .geq (.t 73) (kI 0)),Qm 72 74] [2,3,6,7,8,9,10,11,12,13,72] [2,3,13,17])
 (.cond (.t 72) (.aj [Qf 75 5 2,Ql 76 75,Qm 77 11,Qa 78 4 76 77,QL 79 4 78,Q 80 (.call 238 [.t 79] [] []),Qs 4 13 80] [2,3,6,7,8,9,10,11,12,13] [2,3,13,17]) (.aj [Qf 48 5 3,Ql 49 48,Qm 50 12,Qa 51 4 49 50,QL 52 4 51,Q 53 (.call 238 [.t 52] [] []),Qs 4 13 53] [2,3,6,7,8,9,10,11,12,13] [2,3,13,17]))))))
 (.seq (.seq (.aj [Qm 81 11,Q 82 (.bin .geq (.t 81) (kI 0)),Qm 83 82,Qg 84 (.load true 7 (.t 2)) 83 true,Qg 85 (.load true 7 (.t 3)) 83 true,Qg 86 (.mv (.t 10)) 83 true,
   Qg 87 (.call 22 [.t 84,.t 85,.t 86] [] []) 83 true,Qg 88 (.not (.t 87)) 83 true,Q 89 (.pick (.t 83) (.t 88) (kB false)),Qm 90 89,Qg 91 (.mv (.t 12)) 90 false,
   Qg 92 (.bin .geq (.t 91) (kI 0)) 90 false,Qg 93 (.mv (.t 92)) 90 false,Qg 94 (.load true 7 (.t 3)) 93 true,Qg 95 (.load true 7 (.t 2)) 93 true,Qg 96 (.mv (.t 10)) 93 true,
   Qg 97 (.call 22 [.t 94,.t 95,.t 96] [] []) 93 true,Qg 98 (.not (.t 97)) 93 true,Qg 99 (.pick (.t 93) (.t 98) (kB false)) 90 false,Q 100 (.pick (.t 90) (kB true) (.t 99))] [2,3,6,7,8,9,13,100] [2,3,13,17])
 (.cond (.t 100) (.seq (.aj [Qm 101 6,Qf 102 1 13,Qs 1 102 101] [2,3,6,7,8,9,13] [2,3,13,17])
 (.aj [Qm 103 6,Q 104 (.bin .add (.t 103) (kI 1)),Qm 6 104] [2,3,6,7,8,9,13] [2,3,13,17])) (.skip)))
 (.shut [17] (.aj [Qm 105 7,QL 106 4 13,Q 107 (.call 462 [.t 105,.t 106] [] [(0,17)]),Qm 7 107] [2,3,6,7,8,9] [2,3,17]))))))))))
 (.aj [Qm 25 9,Q 26 (.bin .add (.t 25) (kI 1)),Qm 9 26] [2,3,6,7,8,9] [2,3,17]))
def cY.b:C:= .seq (.aj [Qv 2 0,Qv 3 1,Q 4 (.nil 4),Qi 5 0] [2,3] [2,3])
 (.seq (.aj [QL 14 7 2,QL 15 7 3,Q 16 (.call 459 [.t 14,.t 15] [] []),Qm 6 16] [2,3,6] [2,3])
 (.seq (.aj [Q 17 (.bL 4 0 [.int .i64 0,.int .i64 0,.aO 3,.str ⟨#[]⟩] []),Qm 7 17] [2,3,6,7] [2,3,17])
 (.seq (.aj [QL 18 7 2,QL 19 7 3,Q 20 (.call 460 [.t 18,.t 19] [] []),Qm 8 20] [2,3,6,7,8] [2,3,17])
 (.seq (.seq (.aj [Qi 9 0] [2,3,6,7,8,9] [2,3,17])
 (.block 0 (.loop cY.l0)))
 (.seq (.aj [Qm 108 7,Qm 109 6,Qm 4 108,Qm 5 109] [4,5] [4,17])
 (.ret))))))
def cY.m:Fn:={np:=2,body:=cY.b,res:=[.tmp 4,.tmp 5]}
def cY.k(M:Nat→Option Body):Prop:=M 439=some (.code cY.m)∧dP.k M∧bP.k M∧bl.k M∧fU.k M∧hZ.k M∧dn.k M∧fG.k M∧cV.k M
def eY.b:C:= .seq (.aj [Qv 2 0,Qv 3 1,Q 4 (.alloc [.int .i64 0,.str ⟨#[]⟩,.int .i64 0,.int .i64 0,.int .i64 0,.aO 4,.aO 1])] [2,3,4] [2,3,4,11205,11206,12300,15300])
 (.seq (.seq (.aj [Qf 6 0 2,Ql 7 6,Qf 8 0 3,Ql 9 8,Q 10 (.bin .neq (.t 7) (.t 9))] [2,3,4,10] [2,3,4,11205,11206,12300,15300])
 (.cond (.t 10) (.seq (.aj [QL 11 7 2,Q 12 (.call 180 [.t 11] [] [(5,11205),(6,11206)]),Qs 7 4 12] [4] [4,11205,11206,12300,15300])
 (.ret)) (.skip)))
 (.seq (.gf [Qf 13 0 2,Ql 14 13,Qf 15 1 2,Ql 16 15,Qf 17 2 2,QL 18 2 17,Qf 19 6 2,Ql 20 19,Qf 21 6 3,Ql 22 21,Q 23 (.call 43 [.t 20,.t 22] [] [(0,12300)]),
   Q 24 (.build [.int .i64 0,.str ⟨#[]⟩,.int .i64 0,.int .i64 0,.int .i64 0,.aO 4,.aO 1] [(0,1,.t 14),(1,1,.t 16),(2,2,.t 18),(6,1,.t 23)]),
   Q 5 (.alloc [.int .i64 0,.str ⟨#[]⟩,.int .i64 0,.int .i64 0,.int .i64 0,.aO 4,.aO 1]),Qs 7 5 24] [[],[0],[],[2],[],[4],[],[6],[],[8],[6,7,8,9],lr 11,[],lr 13] [2,3,4,5] [2,3,4,5,11205,11206,12300,15300])
 (.seq (.seq (.aj [Qf 25 2 3,QL 26 2 25,Qf 27 2 2,QL 28 2 27,Q 29 (.call 277 [.t 26,.t 28] [] []),Qm 30 29,Qg 31 (.bK 2 (.t 2)) 30 false,Qg 32 (.load true 2 (.t 31)) 30 false,
   Qg 33 (.bK 2 (.t 3)) 30 false,Qg 34 (.load true 2 (.t 33)) 30 false,Qg 35 (.eqs false [.int,.int] (.t 32) (.t 34)) 30 false,Qg 36 (.mv (.t 35)) 30 false,
   Qg 37 (.bK 1 (.t 3)) 36 true,Qg 38 (.load false 1 (.t 37)) 36 true,Qg 39 (.bK 1 (.t 2)) 36 true,Qg 40 (.load false 1 (.t 39)) 36 true,
   Qg 41 (.bin .gtr (.t 38) (.t 40)) 36 true,Qg 42 (.pick (.t 36) (.t 41) (kB false)) 30 false,Q 43 (.pick (.t 30) (kB true) (.t 42))] [2,3,4,5,43] [2,3,4,5,11205,11206,12300,15300])
 (.cond (.t 43) (.seq (.aj [Qf 44 1 3,Ql 45 44,Qf 46 1 5,Qs 1 46 45] [2,3,4,5] [2,3,4,5,11205,11206,12300,15300])
 (.aj [Qf 47 2 3,QL 48 2 47,Qf 49 2 5,Qs 2 49 48] [2,3,4,5] [2,3,4,5,11205,11206,12300,15300])) (.skip)))
 (.seq (.aj [QL 51 7 2,QL 52 7 3,Q 53 (.call 439 [.t 51,.t 52] [] [(0,15300)]),Qm 50 53,Qx 54 0 50,Qx 55 1 50,Qf 56 5 5,Qs 1 56 54,Qf 57 4 5,Qs 1 57 55] [4,5] [4,5,11205,11206,12300,15300])
 (.seq (.aj [QL 58 7 5,Qs 7 4 58] [4] [4,11205,11206,12300,15300])
 (.ret))))))
def eY.m:Fn:={np:=2,body:=eY.b,res:=[.cell 4 true 7]}
def eY.k(M:Nat→Option Body):Prop:=M 405=some (.code eY.m)∧aY.k M∧b5.k M∧iq.k M∧cY.k M
def gU.b:C:= .seq (.aj [Q 2 (.mv (.k (.int .u8 0)))] [0] [])
 (.seq (.seq (.aj [Qm 3 0,Q 4 (.bin .lss (.t 3) (kI 10))] [0,4] [])
 (.cond (.t 4) (.seq (.aj [Qm 5 0,Q 6 (.bin .add (kI 48) (.t 5)),Q 7 (.q9 .u8 (.t 6)),Qm 2 7] [2] [])
 (.ret)) (.skip)))
 (.seq (.aj [Qm 8 0,Q 9 (.bin .add (kI 97) (.t 8)),Q 10 (.bin .sub (.t 9) (kI 10)),Q 11 (.q9 .u8 (.t 10)),Qm 2 11] [2] [])
 (.ret)))
def gU.m:Fn:={np:=1,body:=gU.b,res:=[.tmp 2]}
def gU.k(M:Nat→Option Body):Prop:=M 247=some (.code gU.m)
def cZ.l0:C:= .seq (.seq (.aj [Qm 10 0,Q 11 (.bin .neq (.t 10) (kI 0))] [0,3,4,11] [])
 (.cond (.t 11) (.skip) (.exit 0)))
 (.block 1 (.seq (.aj [Qm 12 0,Q 13 (.bin .rem (.t 12) (kI 10)),Qm 5 13] [0,3,4,5] [])
 (.seq (.seq (.aj [Qm 14 5,Q 15 (.bin .lss (.t 14) (kI 0))] [0,3,4,5,15] [])
 (.cond (.t 15) (.aj [Qm 16 5,Q 17 (.neg (.t 16)),Qm 5 17] [0,3,4,5] []) (.skip)))
 (.seq (.aj [Qm 18 5,Q 19 (.call 247 [.t 18] [] []),Q 20 (.bL 1 1 [.int .u8 0] [(0,.t 19)]),Q 21 (.CC (.t 20)),Qm 22 4,Q 23 (.bin .add (.t 21) (.t 22)),Qm 4 23] [0,3,4] [])
 (.aj [Qm 24 0,Q 25 (.bin .quo (.t 24) (kI 10)),Qm 0 25] [0,3,4] [])))))
def cZ.b:C:= .seq (.aj [Q 2 (.mv (.k (.str ⟨#[]⟩)))] [0] [])
 (.seq (.seq (.aj [Qm 6 0,Q 7 (.bin .eql (.t 6) (kI 0))] [0,7] [])
 (.cond (.t 7) (.seq (.aj [Q 2 (.mv (.k (.str ⟨#[48]⟩)))] [2] [])
 (.ret)) (.skip)))
 (.seq (.aj [Qm 8 0,Q 9 (.bin .lss (.t 8) (kI 0)),Qm 3 9] [0,3] [])
 (.seq (.aj [Q 4 (.mv (.k (.str ⟨#[]⟩)))] [0,3,4] [])
 (.seq (.block 0 (.loop cZ.l0))
 (.seq (.seq (.aj [Qm 26 3] [4,26] [])
 (.cond (.t 26) (.seq (.aj [Qm 27 4,Q 28 (.bin .add (.k (.str ⟨#[45]⟩)) (.t 27)),Qm 2 28] [2] [])
 (.ret)) (.skip)))
 (.seq (.aj [Qm 29 4,Qm 2 29] [2] [])
 (.ret)))))))
def cZ.m:Fn:={np:=1,body:=cZ.b,res:=[.tmp 2]}
def cZ.k(M:Nat→Option Body):Prop:=M 197=some (.code cZ.m)∧gU.k M
def du.l0:C:= .seq (.seq (.aj [Qm 9 4,Q 10 (.bin .neq (.t 9) (kI 0))] [0,3,4,10] [])
 (.cond (.t 10) (.skip) (.exit 0)))
 (.seq (.block 1 (.seq (.aj [Qm 13 4,Q 14 (.bin .rem (.t 13) (kI 10)),Qm 5 14] [0,3,4,5] [])
 (.seq (.aj [Qm 15 5,Qm 16 5,Q 17 (.neg (.t 16)),Q 18 (.max (.t 15) (.t 17)),Qm 5 18] [0,3,4,5] [])
 (.aj [Qm 19 5,Qm 20 5,Q 21 (.bin .add (.t 20) (kI 1)),Q 22 (.og (.k (.str ⟨#[48,49,50,51,52,53,54,55,56,57,97,98,99,100,101,102]⟩)) (some (.t 19)) (some (.t 21))),
   Qm 23 3,Q 24 (.bin .add (.t 22) (.t 23)),Qm 3 24] [0,3,4] []))))
 (.aj [Qm 11 4,Q 12 (.bin .quo (.t 11) (kI 10)),Qm 4 12] [0,3,4] []))
def du.b:C:= .seq (.aj [Q 2 (.mv (.k (.str ⟨#[]⟩)))] [0] [])
 (.seq (.seq (.aj [Qm 6 0,Q 7 (.bin .eql (.t 6) (kI 0))] [0,7] [])
 (.cond (.t 7) (.seq (.aj [Q 2 (.mv (.k (.str ⟨#[48]⟩)))] [2] [])
 (.ret)) (.skip)))
 (.seq (.aj [Q 3 (.mv (.k (.str ⟨#[]⟩)))] [0,3] [])
 (.seq (.seq (.aj [Qm 8 0,Qm 4 8] [0,3,4] [])
 (.block 0 (.loop du.l0)))
 (.seq (.seq (.aj [Qm 25 0,Q 26 (.bin .lss (.t 25) (kI 0))] [3,26] [])
 (.cond (.t 26) (.aj [Qm 27 3,Q 28 (.bin .add (.k (.str ⟨#[45]⟩)) (.t 27)),Qm 3 28] [3] []) (.skip)))
 (.seq (.aj [Qm 29 3,Qm 2 29] [2] [])
 (.ret))))))
def du.m:Fn:={np:=1,body:=du.b,res:=[.tmp 2]}
def du.k(M:Nat→Option Body):Prop:=M 128=some (.code du.m)
def e_.b:C:= .seq (.aj [Qv 2 0,Qb 3 false] [1,2] [2])
 (.seq (.aj [Qf 4 0 2,Ql 5 4,Ql 6 1,Q 7 (.bin .eql (.t 5) (.t 6)),Qm 3 7] [3] [])
 (.ret))
def e_.m:Fn:={np:=2,body:=e_.b,res:=[.tmp 3]}
def e_.k(M:Nat→Option Body):Prop:=M 477=some (.code e_.m)
def fa.b:C:= .seq (.aj [Qv 3 1,Qi 4 0] [0,3] [3])
 (.seq (.aj [Qm 5 0,Q 6 (.tF 477 [.t 3]),Q 7 (.call 200 [.t 5,.t 6] [] []),Qm 4 7] [4] [])
 (.ret))
def fa.m:Fn:={np:=2,body:=fa.b,res:=[.tmp 4]}
def fa.k(M:Nat→Option Body):Prop:=M 476=some (.code fa.m)∧aA.k M∧e_.k M
def aE.l0:C:= .seq (.seq (.aj [Qm 16 6,Qm 17 0,Q 18 (.len (.t 17)),Q 19 (.bin .lss (.t 16) (.t 18))] [0,1,5,6,19] [0])
 (.cond (.t 19) (.skip) (.exit 0)))
 (.seq (.block 1 (.seq (.aj [Qm 22 0,Qm 23 6,Qa 24 7 22 23,QL 25 7 24,Q 7 (.alloc [.int .i64 0,.str ⟨#[]⟩,.int .i64 0,.int .i64 0,.int .i64 0,.aO 4,.aO 1]),Qs 7 7 25] [0,1,5,6,7] [0,7])
 (.seq (.aj [Qm 26 1,QL 27 7 7,Q 28 (.oJ (.t 26) [.t 27]),Q 29 (.not (.t 28))] [0,1,5,6,7,29] [0,7])
 (.cond (.t 29) (.seq (.aj [Qm 30 0,Qm 31 5,QL 32 7 7,Qa 33 7 30 31,Qs 7 33 32] [0,1,5,6] [0])
 (.aj [Qm 34 5,Q 35 (.bin .add (.t 34) (kI 1)),Qm 5 35] [0,1,5,6] [0])) (.skip)))))
 (.aj [Qm 20 6,Q 21 (.bin .add (.t 20) (kI 1)),Qm 6 21] [0,1,5,6] [0]))
def aE.b:C:= .seq (.aj [Q 4 (.nil 7)] [0,1] [0])
 (.seq (.aj [Qm 8 0,Qm 9 1,Q 10 (.call 200 [.t 8,.t 9] [] []),Qm 5 10] [0,1,5] [0])
 (.seq (.seq (.aj [Qm 11 5,Q 12 (.bin .eql (.t 11) (kI (-1)))] [0,1,5,12] [0])
 (.cond (.t 12) (.seq (.aj [Qm 13 0,Qm 4 13] [4] [0,4])
 (.ret)) (.skip)))
 (.seq (.seq (.aj [Qm 14 5,Q 15 (.bin .add (.t 14) (kI 1)),Qm 6 15] [0,1,5,6] [0])
 (.block 0 (.loop aE.l0)))
 (.seq (.aj [Qm 36 0,Qm 37 5,Q 38 (.vU 7 (.t 36) (some (.t 37)) none none),Qn (.EU [.int .i64 0,.str ⟨#[]⟩,.int .i64 0,.int .i64 0,.int .i64 0,.aO 4,.aO 1] (.t 38))] [0,5] [0])
 (.seq (.aj [Qm 39 0,Qm 40 5,Q 41 (.vU 7 (.t 39) none (some (.t 40)) none),Qm 4 41] [4] [0,4])
 (.ret))))))
def aE.m:Fn:={np:=2,body:=aE.b,res:=[.tmp 4]}
def aE.k(M:Nat→Option Body):Prop:=M 478=some (.code aE.m)∧aA.k M
def fC.b:C:= .seq (.aj [Qv 2 0,Qb 3 false] [1,2] [2])
 (.seq (.aj [Ql 4 1,Qf 5 0 2,Ql 6 5,Q 7 (.call 156 [.t 4,.t 6] [] []),Qm 3 7] [3] [])
 (.ret))
def fC.m:Fn:={np:=2,body:=fC.b,res:=[.tmp 3]}
def fC.k(M:Nat→Option Body):Prop:=M 479=some (.code fC.m)∧aL.k M
def az.l1:C:= .seq (.seq (.gf [Qm 18 9,Qm 19 1,Q 20 (.bin .gtr (.t 18) (.t 19)),Qm 21 20,Qg 22 (.mv (.t 3)) 21 true,Qg 23 (.mv (.t 0)) 21 true,Qg 24 (.mv (.t 9)) 21 true,
    Qg 25 (.lg 7 (.t 23) (.t 24)) 21 true,Qg 26 (.load true 7 (.t 25)) 21 true,Qg 27 (.mv (.t 0)) 21 true,Qg 28 (.mv (.t 9)) 21 true,Qg 29 (.bin .sub (.t 28) (kI 1)) 21 true,
    Qg 30 (.lg 7 (.t 27) (.t 29)) 21 true,Qg 31 (.load true 7 (.t 30)) 21 true,Qg 32 (.oJ (.t 22) [.t 26,.t 31]) 21 true,Qg 33 (.bin .lss (.t 32) (kI 0)) 21 true,
    Q 34 (.pick (.t 21) (.t 33) (kB false))] [[],[],[0,1],[0,1,2],lr 4,lr 4,lr 4,lr 4++[5,6],lr 4++[5,6,7],lr 4,lr 4,lr 4++[10],lr 4++[9,10,11],lr 4++[9,10,11,12],lr 14,lr 15,lr 16] [0,1,2,3,8,9,34] [0])
 (.cond (.t 34) (.skip) (.exit 2)))
 (.seq (.block 3 (.gf [Qm 37 0,Qm 38 9,Qm 39 0,Qm 40 9,Q 41 (.bin .sub (.t 40) (kI 1)),Qm 42 0,Qm 43 9,Q 44 (.bin .sub (.t 43) (kI 1)),Qa 45 7 42 44,QL 46 7 45,Qm 47 0,Qm 48 9,Qa 49 7 47 48,
   QL 50 7 49,Qa 51 7 37 38,Qs 7 51 46,Qa 52 7 39 41,Qs 7 52 50] [[],[],[],[],[3],[],[],[6],[5,6,7],[5,6,7,8],[],[],[10,11],[10,11,12],[0,1,5,6,7,8,9,10,11,12,13],[0,1,5,6,7,8,9,10,11,12,13,14],lr 16,lr 17] [0,1,2,3,8,9] [0]))
 (.aj [Qm 35 9,Q 36 (.bin .sub (.t 35) (kI 1)),Qm 9 36] [0,1,2,3,8,9] [0]))
def az.l0:C:= .seq (.seq (.aj [Qm 12 8,Qm 13 2,Q 14 (.bin .lss (.t 12) (.t 13))] [0,1,2,3,8,14] [0])
 (.cond (.t 14) (.skip) (.exit 0)))
 (.seq (.block 1 (.seq (.aj [Qm 17 8,Qm 9 17] [0,1,2,3,8,9] [0])
 (.block 2 (.loop az.l1))))
 (.aj [Qm 15 8,Q 16 (.bin .add (.t 15) (kI 1)),Qm 8 16] [0,1,2,3,8] [0]))
def az.b:C:= .seq (.aj [Qm 10 1,Q 11 (.bin .add (.t 10) (kI 1)),Qm 8 11] [0,1,2,3,8] [0])
 (.block 0 (.loop az.l0))
def az.m:Fn:={np:=4,body:=az.b,res:=[]}
def az.k(M:Nat→Option Body):Prop:=M 492=some (.code az.m)
def aT.l0:C:= .seq (.seq (.aj [Qm 11 8,Qm 12 1,Q 13 (.bin .leq (.t 11) (.t 12))] [0,1,2,6,7,8,13] [0])
 (.cond (.t 13) (.skip) (.exit 0)))
 (.block 1 (.seq (.aj [Qm 14 0,Qm 15 7,Qm 16 8,Qm 17 2,Q 18 (.call 492 [.t 14,.t 15,.t 16,.t 17] [0] [])] [0,1,2,6,8] [0])
 (.seq (.aj [Qm 19 8,Qm 7 19] [0,1,2,6,7,8] [0])
 (.aj [Qm 20 8,Qm 21 6,Q 22 (.bin .add (.t 20) (.t 21)),Qm 8 22] [0,1,2,6,7,8] [0]))))
def aT.l2:C:= .seq (.seq (.aj [Qm 33 8,Qm 34 1,Q 35 (.bin .leq (.t 33) (.t 34))] [0,1,2,6,7,8,35] [0])
 (.cond (.t 35) (.skip) (.exit 4)))
 (.block 5 (.seq (.aj [Qm 36 0,Qm 37 7,Qm 38 7,Qm 39 6,Q 40 (.bin .add (.t 38) (.t 39)),Qm 41 8,Qm 42 2,Q 43 (.call 493 [.t 36,.t 37,.t 40,.t 41,.t 42] [0] [])] [0,1,2,6,8] [0])
 (.seq (.aj [Qm 44 8,Qm 7 44] [0,1,2,6,7,8] [0])
 (.aj [Qm 45 8,Qm 46 6,Q 47 (.bin .mul (kI 2) (.t 46)),Q 48 (.bin .add (.t 45) (.t 47)),Qm 8 48] [0,1,2,6,7,8] [0]))))
def aT.l1:C:= .seq (.seq (.aj [Qm 28 6,Qm 29 1,Q 30 (.bin .lss (.t 28) (.t 29))] [0,1,2,6,30] [0])
 (.cond (.t 30) (.skip) (.exit 2)))
 (.block 3 (.seq (.aj [Qm 31 6,Q 32 (.bin .mul (kI 2) (.t 31)),Qi 7 0,Qm 8 32] [0,1,2,6,7,8] [0])
 (.seq (.block 4 (.loop aT.l2))
 (.seq (.seq (.aj [Qm 49 7,Qm 50 6,Q 51 (.bin .add (.t 49) (.t 50)),Qm 9 51] [0,1,2,6,7,9] [0])
 (.seq (.aj [Qm 52 9,Qm 53 1,Q 54 (.bin .lss (.t 52) (.t 53))] [0,1,2,6,7,9,54] [0])
 (.cond (.t 54) (.aj [Qm 55 0,Qm 56 7,Qm 57 9,Qm 58 1,Qm 59 2,Q 60 (.call 493 [.t 55,.t 56,.t 57,.t 58,.t 59] [0] [])] [0,1,2,6] [0]) (.skip))))
 (.aj [Qm 61 6,Q 62 (.bin .mul (.t 61) (kI 2)),Qm 6 62] [0,1,2,6] [0])))))
def aT.b:C:= .seq (.aj [Qi 6 20] [0,1,2,6] [0])
 (.seq (.aj [Qm 10 6,Qi 7 0,Qm 8 10] [0,1,2,6,7,8] [0])
 (.seq (.block 0 (.loop aT.l0))
 (.seq (.aj [Qm 23 0,Qm 24 7,Qm 25 1,Qm 26 2,Q 27 (.call 492 [.t 23,.t 24,.t 25,.t 26] [0] [])] [0,1,2,6] [0])
 (.block 2 (.loop aT.l1)))))
def aT.m:Fn:={np:=3,body:=aT.b,res:=[]}
def aT.k(M:Nat→Option Body):Prop:=M 490=some (.code aT.m)∧az.k M
def bd.b:C:= .aj [Qm 4 0,Qm 5 0,Q 6 (.len (.t 5)),Qm 7 1,Q 8 (.call 490 [.t 4,.t 6,.t 7] [0] [])] [] [0]
def bd.m:Fn:={np:=2,body:=bd.b,res:=[]}
def bd.k(M:Nat→Option Body):Prop:=M 480=some (.code bd.m)∧aT.k M
def fB.b:C:= .seq (.aj [Qv 2 0,Qv 3 1,Qi 4 0] [2,3] [2,3])
 (.seq (.aj [Qf 5 0 2,Ql 6 5,Qf 7 0 3,Ql 8 7,Q 9 (.call 457 [.t 6,.t 8] [] []),Qm 4 9] [4] [])
 (.ret))
def fB.m:Fn:={np:=2,body:=fB.b,res:=[.tmp 4]}
def fB.k(M:Nat→Option Body):Prop:=M 481=some (.code fB.m)∧fp.k M
def bj.b:C:= .seq (.aj [Qb 4 false] [0,1] [])
 (.seq (.aj [Qm 5 0,Qm 6 1,Q 7 (.call 200 [.t 5,.t 6] [] []),Q 8 (.bin .geq (.t 7) (kI 0)),Qm 4 8] [4] [])
 (.ret))
def bj.m:Fn:={np:=2,body:=bj.b,res:=[.tmp 4]}
def bj.k(M:Nat→Option Body):Prop:=M 482=some (.code bj.m)∧aA.k M
def fA.b:C:= .seq (.aj [Qv 2 0,Qb 3 false] [1,2] [2])
 (.seq (.aj [Qf 4 1 2,Ql 5 4,Qf 6 1 1,Ql 7 6,Q 8 (.bin .eql (.t 5) (.t 7)),Qm 3 8] [3] [])
 (.ret))
def fA.m:Fn:={np:=2,body:=fA.b,res:=[.tmp 3]}
def fA.k(M:Nat→Option Body):Prop:=M 483=some (.code fA.m)
def cL.b:C:= .seq (.aj [Q 4 (.mv (.k (.str ⟨#[]⟩)))] [0,1] [])
 (.seq (.aj [Qm 7 0,Qm 8 0,Q 9 (.lu (.t 8)),Q 10 (.min (kI 6) (.t 9)),Q 11 (.og (.t 7) none (some (.t 10))),Q 12 (.bin .add (.t 11) (.k (.str ⟨#[120]⟩))),Qm 5 12] [1,5] [])
 (.seq (.seq (.aj [Qm 13 1,Q 14 (.bin .gtr (.t 13) (kI 0))] [1,5,14] [])
 (.cond (.t 14) (.seq (.aj [Qm 15 1,Q 16 (.call 128 [.t 15] [] []),Qm 6 16] [5,6] [])
 (.aj [Qm 17 5,Qm 18 6,Qm 19 6,Q 20 (.lu (.t 19)),Q 21 (.bin .sub (.t 20) (kI 5)),Q 22 (.max (kI 0) (.t 21)),Q 23 (.og (.t 18) (some (.t 22)) none),
   Q 24 (.bin .add (.t 17) (.t 23)),Qm 5 24] [5] [])) (.skip)))
 (.seq (.aj [Qm 25 5,Qm 4 25] [4] [])
 (.ret))))
def cL.m:Fn:={np:=2,body:=cL.b,res:=[.tmp 4]}
def cL.k(M:Nat→Option Body):Prop:=M 484=some (.code cL.m)∧du.k M
def bA.l0:C:= .seq (.aj [Q 20 (.bin .lss (.t 19) (.t 18))] [0,1,5,7,8,17,18,19,20] [5,16,40,58,16200])
 (.seq (.cond (.t 20) (.skip) (.exit 0))
 (.seq (.block 1 (.seq (.aj [Qa 21 7 17 19,QL 22 7 21,Q 10 (.alloc [.int .i64 0,.str ⟨#[]⟩,.int .i64 0,.int .i64 0,.int .i64 0,.aO 4,.aO 1]),Qs 7 10 22] [0,1,5,7,8,10,17,18,19] [5,10,16,40,58,16200])
 (.seq (.seq (.aj [Qm 23 8,Qm 24 1,Qf 25 0 10,Ql 26 25,Q 27 (.oJ (.t 23) [.t 24,.t 26]),Qm 11 27] [0,1,5,7,8,10,11,17,18,19] [5,10,16,40,58,16200])
 (.seq (.aj [Qm 28 11,Q 29 (.bin .geq (.t 28) (kI 0))] [0,1,5,7,8,10,11,17,18,19,29] [5,10,16,40,58,16200])
 (.cond (.t 29) (.gf [QL 30 7 10,Qm 31 1,Qm 32 11,Qa 33 7 31 32,QL 34 7 33,Q 35 (.call 401 [.t 30,.t 34] [] []),Qs 7 10 35] [[],[],[],[1,2],[1,2,3],lr 5,lr 6] [0,1,5,7,8,10,17,18,19] [5,10,16,40,58,16200]) (.skip))))
 (.aj [Qm 36 7,QL 37 7 10,Q 38 (.call 155 [.t 37] [] []),Q 39 (.bL 7 1 [.int .i64 0,.str ⟨#[]⟩,.int .i64 0,.int .i64 0,.int .i64 0,.aO 4,.aO 1] [(0,.t 38)]),
   Q 40 (.app 7 96 (.t 36) (.t 39)),Qm 7 40] [0,1,5,7,8,17,18,19] [5,16,40,58,16200]))))
 (.aj [Q 41 (.bin .add (.t 19) (kI 1)),Qm 19 41] [0,1,5,7,8,17,18,19] [5,16,40,58,16200])))
def bA.l1:C:= .seq (.aj [Q 45 (.bin .lss (.t 44) (.t 43))] [0,5,7,8,42,43,44,45] [5,16,40,58,16200])
 (.seq (.cond (.t 45) (.skip) (.exit 2))
 (.seq (.block 3 (.seq (.aj [Qa 46 7 42 44,QL 47 7 46,Q 13 (.alloc [.int .i64 0,.str ⟨#[]⟩,.int .i64 0,.int .i64 0,.int .i64 0,.aO 4,.aO 1]),Qs 7 13 47] [0,5,7,8,13,42,43,44] [5,13,16,40,58,16200])
 (.seq (.aj [Qm 48 8,Qm 49 0,Qf 50 0 13,Ql 51 50,Q 52 (.oJ (.t 48) [.t 49,.t 51]),Q 53 (.bin .lss (.t 52) (kI 0))] [0,5,7,8,13,42,43,44,53] [5,13,16,40,58,16200])
 (.cond (.t 53) (.aj [Qm 54 7,QL 55 7 13,Q 56 (.call 155 [.t 55] [] []),Q 57 (.bL 7 1 [.int .i64 0,.str ⟨#[]⟩,.int .i64 0,.int .i64 0,.int .i64 0,.aO 4,.aO 1] [(0,.t 56)]),
   Q 58 (.app 7 96 (.t 54) (.t 57)),Qm 7 58] [0,5,7,8,42,43,44] [5,16,40,58,16200]) (.skip)))))
 (.aj [Q 59 (.bin .add (.t 44) (kI 1)),Qm 44 59] [0,5,7,8,42,43,44] [5,16,40,58,16200])))
def bA.l2:C:= .seq (.aj [Q 68 (.bin .lss (.t 67) (.t 66))] [7,65,66,67,68] [16,40,58,16200])
 (.seq (.cond (.t 68) (.skip) (.exit 4))
 (.seq (.block 5 (.seq (.aj [Qm 69 67,Qa 70 7 65 67,QL 71 7 70,Q 15 (.alloc [.int .i64 0,.str ⟨#[]⟩,.int .i64 0,.int .i64 0,.int .i64 0,.aO 4,.aO 1]),Qm 14 69,Qs 7 15 71] [7,14,15,65,66,67] [15,16,40,58,16200])
 (.seq (.aj [Qm 72 7,Qm 73 14,Q 74 (.vU 7 (.t 72) none (some (.t 73)) none),Q 75 (.tF 483 [.t 15]),Q 76 (.call 482 [.t 74,.t 75] [] [])] [7,14,15,65,66,67,76] [15,16,40,58,16200])
 (.cond (.t 76) (.aj [Qm 77 7,Qm 78 14,Qf 79 1 15,Ql 80 79,Qf 81 0 15,Ql 82 81,Q 83 (.call 484 [.t 80,.t 82] [] []),Qa 84 7 77 78,Qf 85 1 84,Qs 1 85 83] [7,65,66,67] [16,40,58,16200]) (.skip)))))
 (.aj [Q 86 (.bin .add (.t 67) (kI 1)),Qm 67 86] [7,65,66,67] [16,40,58,16200])))
def bA.b:C:= .seq (.aj [Qv 5 2,Q 6 (.nil 7)] [0,1,5] [5])
 (.seq (.aj [Q 16 (.bL 7 0 [.int .i64 0,.str ⟨#[]⟩,.int .i64 0,.int .i64 0,.int .i64 0,.aO 4,.aO 1] []),Qm 7 16] [0,1,5,7] [5,16,40,58,16200])
 (.seq (.aj [Q 8 (.mv (.fn 476))] [0,1,5,7,8] [5,16,40,58,16200])
 (.seq (.seq (.aj [Qm 17 0,Q 18 (.len (.t 17)),Qi 19 0] [0,1,5,7,8,17,18,19] [5,16,40,58,16200])
 (.block 0 (.loop bA.l0)))
 (.seq (.seq (.aj [Qm 42 1,Q 43 (.len (.t 42)),Qi 44 0] [0,5,7,8,42,43,44] [5,16,40,58,16200])
 (.block 2 (.loop bA.l1)))
 (.seq (.shut [5] (.aj [Qm 60 7,Q 61 (.tF 479 [.t 5]),Q 62 (.call 478 [.t 60,.t 61] [0] [(0,16200)]),Qm 7 62] [7] [16,40,58,16200]))
 (.seq (.aj [Qm 63 7,Q 64 (.call 480 [.t 63,.fn 481] [0] [])] [7] [16,40,58,16200])
 (.seq (.seq (.aj [Qm 65 7,Q 66 (.len (.t 65)),Qi 67 0] [7,65,66,67] [16,40,58,16200])
 (.block 4 (.loop bA.l2)))
 (.seq (.aj [Qm 87 7,Qm 6 87] [6] [6,16,40,58,16200])
 (.ret)))))))))
def bA.m:Fn:={np:=3,body:=bA.b,res:=[.tmp 6]}
def bA.k(M:Nat→Option Body):Prop:=M 467=some (.code bA.m)∧cA.k M∧gV.k M∧fa.k M∧aE.k M∧fC.k M∧bd.k M∧fB.k M∧bj.k M∧fA.k M∧cL.k M
def bE.l1:C:= .seq (.aj [Q 49 (.bin .lss (.t 48) (.t 47))] [4,6,7,8,9,10,37,38,39,46,47,48,49] [4,6,9,35,44,60,73,11900,13300])
 (.seq (.cond (.t 49) (.skip) (.exit 2))
 (.seq (.block 3 (.seq (.aj [Qa 50 4 46 48,QL 51 4 50,Q 12 (.alloc [.int .i64 0,.int .i64 0,.aO 3,.str ⟨#[]⟩]),Qs 4 12 51] [4,6,7,8,9,10,12,37,38,39,46,47,48] [4,6,9,12,35,44,60,73,11900,13300])
 (.seq (.aj [Qm 52 7,Qf 53 0 12,Ql 54 53,Q 55 (.call 156 [.t 52,.t 54] [] []),Q 56 (.not (.t 55))] [4,6,7,8,9,10,12,37,38,39,46,47,48,56] [4,6,9,12,35,44,60,73,11900,13300])
 (.cond (.t 56) (.aj [Qm 57 10,QL 58 4 12,Q 59 (.bL 4 1 [.int .i64 0,.int .i64 0,.aO 3,.str ⟨#[]⟩] [(0,.t 58)]),Q 60 (.app 4 56 (.t 57) (.t 59)),Qm 10 60] [4,6,7,8,9,10,37,38,39,46,47,48] [4,6,9,35,44,60,73,11900,13300]) (.skip)))))
 (.aj [Q 61 (.bin .add (.t 48) (kI 1)),Qm 48 61] [4,6,7,8,9,10,37,38,39,46,47,48] [4,6,9,35,44,60,73,11900,13300])))
def bE.l2:C:= .seq (.aj [Q 66 (.bin .lss (.t 65) (.t 64))] [4,6,7,8,10,37,38,39,63,64,65,66] [4,6,35,44,60,73,11900,13300])
 (.seq (.cond (.t 66) (.skip) (.exit 4))
 (.seq (.block 5 (.seq (.aj [Qa 67 4 63 65,QL 68 4 67,Q 14 (.alloc [.int .i64 0,.int .i64 0,.aO 3,.str ⟨#[]⟩]),Qs 4 14 68] [4,6,7,8,10,14,37,38,39,63,64,65] [4,6,14,35,44,60,73,11900,13300])
 (.aj [Qm 69 7,Qf 70 0 14,Ql 71 70,Q 72 (.bL 1 1 [.int .i64 0] [(0,.t 71)]),Q 73 (.app 1 8 (.t 69) (.t 72)),Qm 7 73] [4,6,7,8,10,37,38,39,63,64,65] [4,6,35,44,60,73,11900,13300])))
 (.aj [Q 74 (.bin .add (.t 65) (kI 1)),Qm 65 74] [4,6,7,8,10,37,38,39,63,64,65] [4,6,35,44,60,73,11900,13300])))
def bE.l0:C:= .seq (.aj [Q 40 (.bin .lss (.t 39) (.t 38))] [4,6,7,37,38,39,40] [4,6,35,73,11900,13300])
 (.seq (.cond (.t 40) (.skip) (.exit 0))
 (.seq (.block 1 (.seq (.aj [Qm 41 39,Qa 42 7 37 39,QL 43 7 42,Q 9 (.alloc [.int .i64 0,.str ⟨#[]⟩,.int .i64 0,.int .i64 0,.int .i64 0,.aO 4,.aO 1]),Qm 8 41,Qs 7 9 43] [4,6,7,8,9,37,38,39] [4,6,9,35,73,11900,13300])
 (.seq (.aj [Q 44 (.bL 4 0 [.int .i64 0,.int .i64 0,.aO 3,.str ⟨#[]⟩] []),Qm 10 44] [4,6,7,8,9,10,37,38,39] [4,6,9,35,44,60,73,11900,13300])
 (.seq (.seq (.aj [Qf 45 5 9,Ql 46 45,Q 47 (.len (.t 46)),Qi 48 0] [4,6,7,8,9,10,37,38,39,46,47,48] [4,6,9,35,44,60,73,11900,13300])
 (.block 2 (.loop bE.l1)))
 (.seq (.seq (.aj [Qf 62 5 9,Ql 63 62,Q 64 (.len (.t 63)),Qi 65 0] [4,6,7,8,10,37,38,39,63,64,65] [4,6,35,44,60,73,11900,13300])
 (.block 4 (.loop bE.l2)))
 (.shut [44,60] (.aj [Qf 75 2 6,Ql 76 75,Qm 77 8,Qm 78 10,Qa 79 7 76 77,Qf 80 5 79,Qs 1 80 78] [4,6,7,37,38,39] [4,6,35,73,11900,13300])))))))
 (.aj [Q 81 (.bin .add (.t 39) (kI 1)),Qm 39 81] [4,6,7,37,38,39] [4,6,35,73,11900,13300])))
def bE.b:C:= .seq (.aj [Qv 2 0,Qv 3 1,Q 4 (.alloc [.int .i64 0,.int .i64 0,.aO 7,.aO 1])] [2,3,4] [2,3,4,11900,13300])
 (.seq (.aj [Qf 15 3 2,Ql 16 15,Qf 17 3 3,Ql 18 17,Q 19 (.call 44 [.t 16,.t 18] [] [(0,11900)]),Qm 5 19] [2,3,4,5] [2,3,4,11900,13300])
 (.seq (.shut [11900] (.gf [Qf 20 0 2,Ql 21 20,Qf 22 1 2,Ql 23 22,Qf 24 1 3,Ql 25 24,Q 26 (.max (.t 23) (.t 25)),Qm 27 5,Qf 28 2 2,Ql 29 28,Qf 30 2 3,Ql 31 30,Qm 32 5,
   Q 33 (.call 467 [.t 29,.t 31,.t 32] [] [(0,13300)]),Q 34 (.build [.int .i64 0,.int .i64 0,.aO 7,.aO 1] [(0,1,.t 21),(1,1,.t 26),(3,1,.t 27),(2,1,.t 33)]),
   Q 6 (.alloc [.int .i64 0,.int .i64 0,.aO 7,.aO 1]),Qs 4 6 34] [[],[0],[],[2],[],[4],[2,3,4,5],[],[],[8],[],[10],[],[8,9,10,11,12],lr 14,[],lr 16] [4,6] [4,6,11900,13300]))
 (.seq (.aj [Q 35 (.bL 1 0 [.int .i64 0] []),Qm 7 35] [4,6,7] [4,6,35,73,11900,13300])
 (.seq (.seq (.aj [Qf 36 2 6,Ql 37 36,Q 38 (.len (.t 37)),Qi 39 0] [4,6,7,37,38,39] [4,6,35,73,11900,13300])
 (.block 0 (.loop bE.l0)))
 (.seq (.aj [QL 82 4 6,Qs 4 4 82] [4] [4,11900,13300])
 (.ret))))))
def bE.m:Fn:={np:=2,body:=bE.b,res:=[.cell 4 true 4]}
def bE.k(M:Nat→Option Body):Prop:=M 447=some (.code bE.m)∧fI.k M∧aL.k M∧bA.k M
def fw.b:C:= .seq (.aj [Qv 2 0,Qv 3 1,Qb 4 false] [2,3] [2,3])
 (.seq (.aj [QL 5 4 2,Q 6 (.call 150 [.t 5] [] []),Qm 7 6,Qg 8 (.load true 4 (.t 3)) 7 true,Qg 9 (.call 150 [.t 8] [] []) 7 true,Q 10 (.pick (.t 7) (.t 9) (kB false)),Qm 11 10,
   Qg 12 (.load true 4 (.t 2)) 11 true,Qg 13 (.load true 4 (.t 3)) 11 true,Qg 14 (.call 447 [.t 12,.t 13] [] []) 11 true,Qg 15 (.call 150 [.t 14] [] []) 11 true,
   Q 16 (.pick (.t 11) (.t 15) (kB false)),Qm 4 16] [4] [])
 (.ret))
def fw.m:Fn:={np:=2,body:=fw.b,res:=[.tmp 4]}
def fw.k(M:Nat→Option Body):Prop:=M 433=some (.code fw.m)∧aQ.k M∧bE.k M
def gi.l0:C:= .seq (.seq (.aj [Qm 6 5,Qm 7 0,Q 8 (.len (.t 7)),Q 9 (.bin .lss (.t 6) (.t 8))] [0,1,5,9] [])
 (.cond (.t 9) (.skip) (.exit 0)))
 (.seq (.block 1 (.seq (.aj [Qm 12 0,Qm 13 5,Qa 14 7 12 13,Qf 15 0 14,Ql 16 15,Qm 17 1,Q 18 (.bin .eql (.t 16) (.t 17))] [0,1,5,18] [])
 (.cond (.t 18) (.seq (.aj [Qm 19 5,Qm 4 19] [4] [])
 (.ret)) (.skip))))
 (.aj [Qm 10 5,Q 11 (.bin .add (.t 10) (kI 1)),Qm 5 11] [0,1,5] []))
def gi.b:C:= .seq (.aj [Qi 4 0] [0,1] [])
 (.seq (.seq (.aj [Qi 5 0] [0,1,5] [])
 (.block 0 (.loop gi.l0)))
 (.seq (.aj [Qi 4 (-1)] [4] [])
 (.ret)))
def gi.m:Fn:={np:=2,body:=gi.b,res:=[.tmp 4]}
def gi.k(M:Nat→Option Body):Prop:=M 474=some (.code gi.m)
def cE.b:C:= .seq (.aj [Q 4 (.mv (.k (.str ⟨#[]⟩)))] [0,1] [])
 (.seq (.aj [Qm 7 0,Qm 5 7] [1,5] [])
 (.seq (.seq (.aj [Qm 8 5,Q 9 (.lu (.t 8)),Q 10 (.bin .gtr (.t 9) (kI 6))] [1,5,10] [])
 (.cond (.t 10) (.aj [Qm 11 5,Q 12 (.og (.t 11) none (some (kI 6))),Qm 5 12] [1,5] []) (.skip)))
 (.seq (.aj [Q 6 (.mv (.k (.str ⟨#[]⟩)))] [1,5,6] [])
 (.seq (.seq (.aj [Qm 13 1,Q 14 (.bin .gtr (.t 13) (kI 0))] [1,5,6,14] [])
 (.cond (.t 14) (.aj [Qm 15 1,Q 16 (.call 197 [.t 15] [] []),Qm 6 16] [5,6] []) (.skip)))
 (.seq (.seq (.aj [Qm 17 6,Q 18 (.lu (.t 17)),Q 19 (.bin .gtr (.t 18) (kI 5))] [5,6,19] [])
 (.cond (.t 19) (.aj [Qm 20 6,Qm 21 6,Q 22 (.lu (.t 21)),Q 23 (.bin .sub (.t 22) (kI 5)),Q 24 (.og (.t 20) (some (.t 23)) none),Qm 6 24] [5,6] []) (.skip)))
 (.seq (.aj [Qm 25 5,Q 26 (.bin .add (.t 25) (.k (.str ⟨#[120]⟩))),Qm 27 6,Q 28 (.bin .add (.t 26) (.t 27)),Qm 4 28] [4] [])
 (.ret)))))))
def cE.m:Fn:={np:=2,body:=cE.b,res:=[.tmp 4]}
def cE.k(M:Nat→Option Body):Prop:=M 475=some (.code cE.m)∧cZ.k M
def a7.l0:C:= .seq (.seq (.aj [Qm 17 8,Qm 18 0,Q 19 (.len (.t 18)),Q 20 (.bin .lss (.t 17) (.t 19))] [0,1,2,7,8,20] [16])
 (.cond (.t 20) (.skip) (.exit 0)))
 (.seq (.block 1 (.seq (.aj [Qm 23 7,Qm 24 0,Qm 25 8,Qa 26 7 24 25,Qf 27 0 26,Ql 28 27,Q 29 (.call 132 [.t 23,.t 28] [] []),Q 30 (.not (.t 29))] [0,1,2,7,8,30] [16])
 (.cond (.t 30) (.aj [Qm 31 7,Qm 32 0,Qm 33 8,Qa 34 7 32 33,Qf 35 0 34,Ql 36 35,Q 37 (.call 133 [.t 31,.t 36] [] [(0,16)]),Qm 7 37] [0,1,2,7,8] [16]) (.skip))))
 (.aj [Qm 21 8,Q 22 (.bin .add (.t 21) (kI 1)),Qm 8 22] [0,1,2,7,8] [16]))
def a7.l1:C:= .seq (.seq (.aj [Qm 38 9,Qm 39 1,Q 40 (.len (.t 39)),Q 41 (.bin .lss (.t 38) (.t 40))] [0,1,2,7,9,41] [16])
 (.cond (.t 41) (.skip) (.exit 2)))
 (.seq (.block 3 (.seq (.aj [Qm 44 7,Qm 45 1,Qm 46 9,Qa 47 7 45 46,Qf 48 0 47,Ql 49 48,Q 50 (.call 132 [.t 44,.t 49] [] []),Q 51 (.not (.t 50))] [0,1,2,7,9,51] [16])
 (.cond (.t 51) (.aj [Qm 52 7,Qm 53 1,Qm 54 9,Qa 55 7 53 54,Qf 56 0 55,Ql 57 56,Q 58 (.call 133 [.t 52,.t 57] [] [(0,16)]),Qm 7 58] [0,1,2,7,9] [16]) (.skip))))
 (.aj [Qm 42 9,Q 43 (.bin .add (.t 42) (kI 1)),Qm 9 43] [0,1,2,7,9] [16]))
def a7.l2:C:= .seq (.seq (.aj [Qm 60 11,Qm 61 7,Q 62 (.len (.t 61)),Q 63 (.bin .lss (.t 60) (.t 62))] [0,1,2,7,10,11,63] [16,59,91,110,121])
 (.cond (.t 63) (.skip) (.exit 4)))
 (.seq (.block 5 (.seq (.seq (.aj [Qm 66 2,Qm 67 7,Qm 68 11,Qa 69 1 67 68,Ql 70 69,Q 71 (.call 132 [.t 66,.t 70] [] [])] [0,1,2,7,10,11,71] [16,59,91,110,121])
 (.cond (.t 71) (.exit 5) (.skip)))
 (.seq (.aj [Qm 72 0,Qm 73 7,Qm 74 11,Qa 75 1 73 74,Ql 76 75,Q 77 (.call 474 [.t 72,.t 76] [] []),Qm 12 77] [0,1,2,7,10,11,12] [16,59,91,110,121])
 (.seq (.aj [Qm 78 1,Qm 79 7,Qm 80 11,Qa 81 1 79 80,Ql 82 81,Q 83 (.call 474 [.t 78,.t 82] [] []),Qm 13 83] [0,1,2,7,10,11,12,13] [16,59,91,110,121])
 (.block 6 (.seq (.aj [Qm 93 12,Q 94 (.bin .geq (.t 93) (kI 0)),Qm 95 94,Qg 96 (.mv (.t 13)) 95 true,Qg 97 (.bin .geq (.t 96) (kI 0)) 95 true,Q 98 (.pick (.t 95) (.t 97) (kB false)),Qm 92 98] [0,1,2,7,10,11,12,13,92] [16,59,91,110,121])
 (.cond (.t 92) (.gf [Qm 99 10,Qm 100 0,Qm 101 12,Qa 102 7 100 101,QL 103 7 102,Qm 104 1,Qm 105 13,Qa 106 7 104 105,QL 107 7 106,Q 108 (.call 405 [.t 103,.t 107] [] []),
   Q 109 (.bL 7 1 [.int .i64 0,.str ⟨#[]⟩,.int .i64 0,.int .i64 0,.int .i64 0,.aO 4,.aO 1] [(0,.t 108)]),Q 110 (.app 7 96 (.t 99) (.t 109)),Qm 10 110] [[],[],[],[1,2],[1,2,3],[],[],[5,6],[5,6,7],[1,2,3,4,5,6,7,8],[1,2,3,4,5,6,7,8,9],lr 11,lr 12] [0,1,2,7,10,11] [16,59,91,110,121]) (.seq (.aj [Qm 112 12,Q 113 (.bin .geq (.t 112) (kI 0)),Qm 111 113] [0,1,2,7,10,11,12,13,111] [16,59,91,110,121])
 (.cond (.t 111) (.aj [Qm 114 10,Qm 115 0,Qm 116 12,Qa 117 7 115 116,QL 118 7 117,Q 119 (.call 180 [.t 118] [] []),
   Q 120 (.bL 7 1 [.int .i64 0,.str ⟨#[]⟩,.int .i64 0,.int .i64 0,.int .i64 0,.aO 4,.aO 1] [(0,.t 119)]),Q 121 (.app 7 96 (.t 114) (.t 120)),Qm 10 121] [0,1,2,7,10,11] [16,59,91,110,121]) (.aj [Qm 84 10,Qm 85 1,Qm 86 13,Qa 87 7 85 86,QL 88 7 87,Q 89 (.call 180 [.t 88] [] []),
   Q 90 (.bL 7 1 [.int .i64 0,.str ⟨#[]⟩,.int .i64 0,.int .i64 0,.int .i64 0,.aO 4,.aO 1] [(0,.t 89)]),Q 91 (.app 7 96 (.t 84) (.t 90)),Qm 10 91] [0,1,2,7,10,11] [16,59,91,110,121]))))))))))
 (.aj [Qm 64 11,Q 65 (.bin .add (.t 64) (kI 1)),Qm 11 65] [0,1,2,7,10,11] [16,59,91,110,121]))
def a7.l4:C:= .seq (.seq (.aj [Qm 128 15,Qm 129 14,Q 130 (.bin .lss (.t 128) (.t 129))] [10,14,15,130] [59,91,110,121])
 (.cond (.t 130) (.skip) (.exit 9)))
 (.seq (.block 10 (.seq (.gf [Qm 133 10,Qm 134 15,Qa 135 7 133 134,Qf 136 1 135,Ql 137 136,Qm 138 10,Qm 139 14,Qa 140 7 138 139,Qf 141 1 140,Ql 142 141,Q 143 (.bin .eql (.t 137) (.t 142))] [[],[],[0,1],[0,1,2],lr 4,[],[],[5,6],[5,6,7],[5,6,7,8],lr 10] [10,14,15,143] [59,91,110,121])
 (.cond (.t 143) (.seq (.gf [Qm 144 10,Qm 145 14,Qm 146 10,Qm 147 14,Qa 148 7 146 147,Qf 149 1 148,Ql 150 149,Qm 151 10,Qm 152 14,Qa 153 7 151 152,Qf 154 0 153,Ql 155 154,
   Q 156 (.call 475 [.t 150,.t 155] [] []),Qa 157 7 144 145,Qf 158 1 157,Qs 1 158 156] [[],[],[],[],[2,3],[2,3,4],[2,3,4,5],[],[],[7,8],[7,8,9],[7,8,9,10],[2,3,4,5,6,7,8,9,10,11],lr 13,lr 14,lr 15] [10,14] [59,91,110,121])
 (.exit 9)) (.skip))))
 (.aj [Qm 131 15,Q 132 (.bin .add (.t 131) (kI 1)),Qm 15 132] [10,14,15] [59,91,110,121]))
def a7.l3:C:= .seq (.seq (.aj [Qm 122 14,Qm 123 10,Q 124 (.len (.t 123)),Q 125 (.bin .lss (.t 122) (.t 124))] [10,14,125] [59,91,110,121])
 (.cond (.t 125) (.skip) (.exit 7)))
 (.seq (.block 8 (.seq (.aj [Qi 15 0] [10,14,15] [59,91,110,121])
 (.block 9 (.loop a7.l4))))
 (.aj [Qm 126 14,Q 127 (.bin .add (.t 126) (kI 1)),Qm 14 127] [10,14] [59,91,110,121]))
def a7.b:C:= .seq (.aj [Q 6 (.nil 7)] [0,1,2] [])
 (.seq (.aj [Q 16 (.bL 1 0 [.int .i64 0] []),Qm 7 16] [0,1,2,7] [16])
 (.seq (.seq (.aj [Qi 8 0] [0,1,2,7,8] [16])
 (.block 0 (.loop a7.l0)))
 (.seq (.seq (.aj [Qi 9 0] [0,1,2,7,9] [16])
 (.block 2 (.loop a7.l1)))
 (.seq (.aj [Q 59 (.bL 7 0 [.int .i64 0,.str ⟨#[]⟩,.int .i64 0,.int .i64 0,.int .i64 0,.aO 4,.aO 1] []),Qm 10 59] [0,1,2,7,10] [16,59,91,110,121])
 (.seq (.seq (.aj [Qi 11 0] [0,1,2,7,10,11] [16,59,91,110,121])
 (.block 4 (.loop a7.l2)))
 (.seq (.seq (.aj [Qi 14 0] [10,14] [59,91,110,121])
 (.block 7 (.loop a7.l3)))
 (.seq (.aj [Qm 159 10,Qm 6 159] [6] [6,59,91,110,121])
 (.ret))))))))
def a7.m:Fn:={np:=3,body:=a7.b,res:=[.tmp 6]}
def a7.k(M:Nat→Option Body):Prop:=M 466=some (.code a7.m)∧bl.k M∧b7.k M∧b5.k M∧eY.k M∧gi.k M∧cE.k M
def bN.l1:C:= .seq (.seq (.aj [Qm 46 9,Qf 47 2 5,Ql 48 47,Qm 49 7,Qa 50 7 48 49,Qf 51 5 50,Ql 52 51,Q 53 (.len (.t 52)),Q 54 (.bin .lss (.t 46) (.t 53))] [4,5,6,7,8,9,54] [4,5,37,45,74,79,11900,13500])
 (.cond (.t 54) (.skip) (.exit 2)))
 (.seq (.block 3 (.seq (.aj [Qf 57 2 5,Ql 58 57,Qm 59 7,Qa 60 7 58 59,Qf 61 5 60,Ql 62 61,Qm 63 9,Qa 64 4 62 63,QL 65 4 64,Q 10 (.alloc [.int .i64 0,.int .i64 0,.aO 3,.str ⟨#[]⟩]),Qs 4 10 65] [4,5,6,7,8,9,10] [4,5,10,37,45,74,79,11900,13500])
 (.seq (.aj [Qm 66 6,Qf 67 0 10,Ql 68 67,Q 69 (.call 132 [.t 66,.t 68] [] []),Q 70 (.not (.t 69))] [4,5,6,7,8,9,10,70] [4,5,10,37,45,74,79,11900,13500])
 (.cond (.t 70) (.seq (.aj [Qm 71 8,QL 72 4 10,Q 73 (.bL 4 1 [.int .i64 0,.int .i64 0,.aO 3,.str ⟨#[]⟩] [(0,.t 72)]),Q 74 (.app 4 56 (.t 71) (.t 73)),Qm 8 74] [4,5,6,7,8,9,10] [4,5,10,37,45,74,79,11900,13500])
 (.aj [Qm 75 6,Qf 76 0 10,Ql 77 76,Q 78 (.bL 1 1 [.int .i64 0] [(0,.t 77)]),Q 79 (.app 1 8 (.t 75) (.t 78)),Qm 6 79] [4,5,6,7,8,9] [4,5,37,45,74,79,11900,13500])) (.skip)))))
 (.aj [Qm 55 9,Q 56 (.bin .add (.t 55) (kI 1)),Qm 9 56] [4,5,6,7,8,9] [4,5,37,45,74,79,11900,13500]))
def bN.l0:C:= .seq (.seq (.aj [Qm 38 7,Qf 39 2 5,Ql 40 39,Q 41 (.len (.t 40)),Q 42 (.bin .lss (.t 38) (.t 41))] [4,5,6,7,42] [4,5,37,79,11900,13500])
 (.cond (.t 42) (.skip) (.exit 0)))
 (.seq (.block 1 (.seq (.aj [Q 45 (.bL 4 0 [.int .i64 0,.int .i64 0,.aO 3,.str ⟨#[]⟩] []),Qm 8 45] [4,5,6,7,8] [4,5,37,45,74,79,11900,13500])
 (.seq (.seq (.aj [Qi 9 0] [4,5,6,7,8,9] [4,5,37,45,74,79,11900,13500])
 (.block 2 (.loop bN.l1)))
 (.shut [45,74] (.aj [Qf 80 2 5,Ql 81 80,Qm 82 7,Qm 83 8,Qa 84 7 81 82,Qf 85 5 84,Qs 1 85 83] [4,5,6,7] [4,5,37,79,11900,13500])))))
 (.aj [Qm 43 7,Q 44 (.bin .add (.t 43) (kI 1)),Qm 7 44] [4,5,6,7] [4,5,37,79,11900,13500]))
def bN.b:C:= .seq (.aj [Qv 2 0,Qv 3 1,Q 4 (.alloc [.int .i64 0,.int .i64 0,.aO 7,.aO 1])] [2,3,4] [2,3,4,11900,13500])
 (.seq (.gf [Qf 11 0 2,Ql 12 11,Qf 13 1 2,Ql 14 13,Qf 15 3 2,Ql 16 15,Qf 17 3 3,Ql 18 17,Q 19 (.call 43 [.t 16,.t 18] [] [(0,11900)]),
   Q 20 (.build [.int .i64 0,.int .i64 0,.aO 7,.aO 1] [(0,1,.t 12),(1,1,.t 14),(3,1,.t 19)]),Q 5 (.alloc [.int .i64 0,.int .i64 0,.aO 7,.aO 1]),Qs 4 5 20] [[],[0],[],[2],[],[4],[],[6],[4,5,6,7],lr 9,[],lr 11] [2,3,4,5] [2,3,4,5,11900,13500])
 (.seq (.seq (.aj [Qf 21 1 3,Ql 22 21,Qf 23 1 2,Ql 24 23,Q 25 (.bin .gtr (.t 22) (.t 24))] [2,3,4,5,25] [2,3,4,5,11900,13500])
 (.cond (.t 25) (.aj [Qf 26 1 3,Ql 27 26,Qf 28 1 5,Qs 1 28 27] [2,3,4,5] [2,3,4,5,11900,13500]) (.skip)))
 (.seq (.shut [11900] (.aj [Qf 29 2 2,Ql 30 29,Qf 31 2 3,Ql 32 31,Qf 33 3 5,Ql 34 33,Q 35 (.call 466 [.t 30,.t 32,.t 34] [] [(0,13500)]),Qf 36 2 5,Qs 1 36 35] [4,5] [4,5,11900,13500]))
 (.seq (.aj [Q 37 (.bL 1 0 [.int .i64 0] []),Qm 6 37] [4,5,6] [4,5,37,79,11900,13500])
 (.seq (.seq (.aj [Qi 7 0] [4,5,6,7] [4,5,37,79,11900,13500])
 (.block 0 (.loop bN.l0)))
 (.seq (.aj [QL 86 4 5,Qs 4 4 86] [4] [4,11900,13500])
 (.ret)))))))
def bN.m:Fn:={np:=2,body:=bN.b,res:=[.cell 4 true 4]}
def bN.k(M:Nat→Option Body):Prop:=M 446=some (.code bN.m)∧aY.k M∧bl.k M∧a7.k M
def fu.b:C:= .seq (.aj [Qv 2 0,Qv 3 1,Qb 4 false] [2,3] [2,3])
 (.seq (.aj [QL 5 4 2,Q 6 (.call 149 [.t 5] [] []),Qm 7 6,Qg 8 (.load true 4 (.t 3)) 7 true,Qg 9 (.call 149 [.t 8] [] []) 7 true,Q 10 (.pick (.t 7) (.t 9) (kB false)),Qm 11 10,
   Qg 12 (.load true 4 (.t 2)) 11 true,Qg 13 (.load true 4 (.t 3)) 11 true,Qg 14 (.call 446 [.t 12,.t 13] [] []) 11 true,Qg 15 (.call 149 [.t 14] [] []) 11 true,
   Q 16 (.pick (.t 11) (.t 15) (kB false)),Qm 4 16] [4] [])
 (.ret))
def fu.m:Fn:={np:=2,body:=fu.b,res:=[.tmp 4]}
def fu.k(M:Nat→Option Body):Prop:=M 432=some (.code fu.m)∧aN.k M∧bN.k M
def iV.b:C:= .seq (.aj [Qv 2 0,Qb 3 false] [1,2] [2])
 (.seq (.aj [Qf 4 0 2,Ql 5 4,Ql 6 1,Q 7 (.bin .eql (.t 5) (.t 6)),Qm 3 7] [3] [])
 (.ret))
def iV.m:Fn:={np:=2,body:=iV.b,res:=[.tmp 3]}
def iV.k(M:Nat→Option Body):Prop:=M 199=some (.code iV.m)
def gQ.b:C:= .seq (.aj [Qv 2 0,Qv 3 1,Qi 4 0] [2,3] [2,3])
 (.seq (.aj [Qf 5 2 2,Ql 6 5,Q 7 (.tF 199 [.t 3]),Q 8 (.call 200 [.t 6,.t 7] [] []),Qm 4 8] [4] [])
 (.ret))
def gQ.m:Fn:={np:=2,body:=gQ.b,res:=[.tmp 4]}
def gQ.k(M:Nat→Option Body):Prop:=M 95=some (.code gQ.m)∧iV.k M∧aA.k M
end Mx
namespace Mx
open Go
variable {P:Program} {F:Nat→FuncId}
def Cd(as:List V)(lent:List (Nat×Ob)):Option (V×List (Nat×Ob)):=match as,lent with
 |[.c (.row 0 0 0 len),.c (.int .i64 i),.c (.row 2 2 0 1)],[(0,ob),(2,ob2)]=>
  if(ob.sz=7∧ob.bx=false∧len≤ob.rows.length∧0≤i∧i≤(len:Int)∧len≤1048576)∧ob2.sz=7∧ob2.bx=false∧ob2.rows.length=1 then
   some (.c (.sl true 7 (ob.rows.take i.toNat++ob2.rows++(ob.rows.take len).drop i.toNat)),[(2,ob2)]) else none
 |_,_=>none
theorem lV{b:Nat}{e:TypeId}{fr:Nat×Nat}:∀(vs:List Value) (o:Nat) (cs:Array Value) (w:World),w.heap[b]? =some (.cells cs e fr)→o+vs.length≤cs.size→
  ∃cs',(w.setCells b o vs).heap[b]? =some (.cells cs' e fr)∧cs'.size=cs.size∧(∀q,cs'[q]? =if o≤q∧q<o+vs.length then vs[q-o]? else cs[q]?)∧
   (w.setCells b o vs).os=w.os∧(w.setCells b o vs).tape=w.tape∧(w.setCells b o vs).output=w.output∧(w.setCells b o vs).heap.size=w.heap.size∧∀k,k≠b→(w.setCells b o vs).heap[k]? =w.heap[k]?
 |[],o,cs,w,hb,hl=>⟨cs,hb,rfl,fun q=>by rw[if_neg (by simp)],rfl,rfl,rfl,rfl,fun _ _=>rfl⟩
 |v::vs,o,cs,w,hb,hl=>by
  simp only[bT] at hl;have hb':(w.setCell ⟨b,o,none⟩ v).heap[b]? =some (.cells (cs.setIfInBounds o v) e fr):=by
   simp only[World.setCell,Array.getElem?_modify,hb];simp
  obtain⟨cs',g1,g2,g3,g4,g5,g6,g7,g8⟩:=lV vs (o+1) (cs.setIfInBounds o v) _ hb' (by simpa using(by omega));refine⟨cs',g1,by rw[g2];simp,fun q=> ?_,g4,g5,g6,by rw[World.setCells,g7];simp[World.setCell],fun k hk=> ?_⟩
  ·rw[g3 q,Array.getElem?_setIfInBounds];by_cases r:o+1≤q∧q<o+1+vs.length
   ·rw[if_pos r,if_pos ⟨by omega,by simp only[bT];omega⟩];obtain⟨p,rfl⟩:∃p,q=o+(p+1):=⟨q-o-1,by omega⟩
    rw[show o+(p+1)-o=p+1 from by omega,show o+(p+1)-(o+1)=p from by omega];simp
   ·rw[if_neg r];by_cases e:o=q
    ·subst e;rw[if_pos rfl,if_pos (by omega),if_pos ⟨Nat.le_refl _,by simp⟩];simp
    ·rw[if_neg e,if_neg (by simp only[bT];omega)]
  ·rw[World.setCells,g8 k hk];simp only[World.setCell,Array.getElem?_modify];rw[if_neg (fun e=>hk e.symm)]
structure th (w w':World) (b:Option Nat) (b' cap':Nat) (R:List Value):Prop where
 os:w'.os=w.os
 tape:w'.tape=w.tape
 output:w'.output=w.output
 size:w.heap.size≤w'.heap.size
 lt:b'<w'.heap.size
 loc:b=some b'∨w.heap.size≤b'
 frame:∀k,k<w.heap.size→b≠some k→w'.heap[k]? =w.heap[k]?
 mem:∃cs e fr,w'.heap[b']? =some (.cells cs e fr)∧cs.size=cap'*7∧(∀o,o≤cs.size→¬(fr.1≤o∧o<fr.2))∧∀(j:Nat) (v:Value),R[j]? =some v→cs[j]? =some v
theorem C_{X:Cx}{ob:Ob}{b cap:Nat}(h:sR X ob b cap)(hz:ob.sz=7){arr:Array Value}{e:TypeId}{fr:Nat×Nat}(hm:X.w.heap[b]? =some (.cells arr e fr))(n:Nat)(hn:n≤ob.rows.length):
  ik X (ob.rows.take n).flatten (arr.toList.take (n*7))∧(arr.toList.take (n*7)).length=n*7:=by
 obtain⟨h1,h2,h3,cs,e',fr',m1,m2,m3,m4⟩:=h;rw[m1] at hm;cases hm;rw[hz] at m2 h2 m4;have hw:∀(i:Nat) (r:List T),(ob.rows.take n)[i]? =some r→r.length=7:=qg h2;have hfl:=lF hw;have htl:(ob.rows.take n).length=n:=by simp;omega
 rw[htl] at hfl;have hlen:(arr.toList.take (n*7)).length=n*7:=by
  have:n*7≤cap*7:=cB 7 (by omega);simp;omega
 refine⟨⟨by rw[hfl,hlen],fun q t v ht hv=> ?_⟩,hlen⟩;have hq:q<n*7:=by rw[←hfl];exact(List.getElem?_eq_some_iff.1 ht).1
 obtain⟨i,j,r,t',rfl,k1,k2,k3⟩:=qE hw (by omega) (by rw[htl];exact hq);rw[ht] at k3;cases k3;rw[cm] at k1;split at k1
 ·obtain⟨v',q1,q2⟩:=m4 i j r _ k1 k2;rw[cm,if_pos hq,Array.getElem?_toList,q1] at hv;cases hv;exact q2
 ·cases k1
section
variable {Pr:Nat→Prop} {E0:Nat→Option Loc} {vals:Array Value} {w w':World}
theorem FX{len:Nat}{i:Int}{ob ob2:Ob}(En:Entry F Pr E0 [.c (.row 0 0 0 len),.c (.int .i64 i),.c (.row 2 2 0 1)] [(0,ob),(2,ob2)] vals w)
  (h2x:ob2.bx=false) (hb:Option Nat) (hb0:∀b,hb=some b→∃cap,E0 0=some (.kJ b cap 7)) {b' cap':Nat} {R:List Value} (O:th w w' hb b' cap' R)
  {rows:List (List T)} (hrl:rows.length≤cap') (hrw:∀(i:Nat) (r:List T),rows[i]? =some r→r.length=7) (hrc:∀(i j:Nat) (r:List T) (t:T),rows[i]? =some r→r[j]? =some t→fx t)
  (hR:ik (cx F Pr E0 [(0,ob),(2,ob2)] w) rows.flatten R):
  ∃val E' own,Ending.returned (.slice (some (hO b')) rows.length cap')= .returned val∧CR F Pr E0 [(0,ob),(2,ob2)] w E' own (.c (.sl true 7 rows)) [(2,ob2)] val w':=by
 obtain⟨v1,_,w1,l1,hl1,hr1⟩:=En.n9 0 ob (by simp[get]);obtain⟨v2,_,w2,l2,hl2,hr2⟩:=En.n9 2 ob2 (by simp[get]);have hlb0:∀b,hb=some b→vJ [(0,ob),(2,ob2)] E0 b:=fun b h=>by
  obtain⟨cap,h0⟩:=hb0 b h;exact⟨0,ob,cap,7,by simp[get],by rw[v1];exact h0⟩
 have hd:∀b cap sz,l2= .kJ b cap sz→hb≠some b:=fun b cap sz h hq=>by
  obtain⟨cap0,h0⟩:=hb0 b hq;rw[h] at hl2;have:=En.pj 0 2 ob ob2 b cap0 7 cap sz (by simp[get]) (by simp[get]) (by rw[v1];exact h0) (by rw[v2];exact hl2);omega
 have K:mL (cx F Pr E0 [(0,ob),(2,ob2)] w) (rx F Pr E0 [(0,ob),(2,ob2)] E0 (fun q=>if q=0 then some (.kJ b' cap' 7) else none) w'):=by
  refine⟨rfl,fun _ _ h=>h,fun ad v hu hcell=> ?_⟩;have hlt:ad.block<w.heap.size:=zX hcell;have hnl:¬vJ [(0,ob),(2,ob2)] E0 ad.block:=by
   rintro ⟨p,ob',cap,sz,h1,h2⟩;refine hu (.inl ⟨p,ob',cap,sz,h1, ?_,h2⟩);simp only[get] at h1;split at h1
   ·cases h1;exact w1
   ·split at h1
    ·cases h1;exact w2
    ·cases h1
  refine⟨(oU (O.frame _ hlt fun q=>hnl (hlb0 _ q))).trans hcell, ?_⟩;rintro (h|h|⟨q,cap,sz,h⟩)
  ·exact hnl h
  ·exact hu (.inr h)
  ·simp only at h;split at h
   ·simp only[aK,Loc.kJ.injEq] at h;rcases O.loc with z|z
    ·exact hnl (by rw[←h.1];exact hlb0 _ z)
    ·omega
   ·cases h
 obtain⟨cs,e,fr,m1,m2,m3,m4⟩:=O.mem;refine⟨.slice (some (hO b')) rows.length cap',E0,fun q=>if q=0 then some (.kJ b' cap' 7) else none,rfl,O.os,O.tape,O.output,O.size, ?_,fun _ _ h=>h, ?_, ?_, ?_, ?_⟩
 ·intro k hk hn;exact O.frame k hk fun q=>hn (hlb0 k q)
 ·intro q b cap sz h;split at h
  ·simp only[aK,Loc.kJ.injEq] at h;obtain⟨rfl,rfl,rfl⟩:=h;refine⟨?_,O.lt⟩;rcases O.loc with z|z
   ·obtain⟨cap0,h0⟩:=hb0 _ z;exact .inr ⟨0,ob,cap0,7,by simp[get],by simp[get],by rw[v1];exact h0⟩
   ·exact .inl z
  ·cases h
 ·intro q q' b cap sz cap2 sz2 h h';split at h
  ·split at h'
   ·omega
   ·cases h'
  ·cases h
 ·simp only[yl,vS];refine te.own 7 rows (.kJ b' cap' 7) (by simp) ⟨rfl, ?_⟩;exact sF (ob:={cF:=0,sz:=7,w:=true,bx:=false,rows:=rows}) hrl hrw (hR.mono K) m1 m2 m3 m4 fun _=>hrc
 ·intro p o1 o2 l hg ha hE;simp only[get] at hg ha;split at ha
  ·rename_i hp2;subst hp2;cases ha;have hg':ob2=o1:=by simpa using hg
   subst hg';rw[hE] at hl2;cases hl2;have hclo:∀(i j:Nat) (r:List T) (t:T),ob2.rows[i]? =some r→r[j]? =some t→fx t:=by
    intro i j r t hi hj;cases l2 with
    |nil=>have:=hr2.1;rw[this] at hi;simp at hi
    |kJ b cap sz=>exact hr2.2.cl h2x i j r t hi hj
   refine⟨?_,hclo⟩;cases l2 with
   |nil=>exact hr2
   |kJ b cap sz=>
    refine⟨hr2.1,hr2.2.mono K ?_⟩;exact O.frame b (En.place 2 ob2 b cap sz (by simp[get]) (by rw[v2];exact hE)) (hd b cap sz rfl)
  ·cases ha
theorem D8{w1:World}{b o cap:Nat}{arr:Array Value}{e:TypeId}{fr:Nat×Nat}{vs R:List Value}(hm:w.heap[b]? =some (.cells arr e fr))(hs:arr.size=cap*7)(hf:∀o,o≤arr.size→¬(fr.1≤o∧o<fr.2))
  (hl:o+vs.length≤arr.size) (hw:w1=w.setCells b o vs) (hR:∀(j:Nat) (v:Value),R[j]? =some v→(if o≤j∧j<o+vs.length then vs[j-o]? else arr[j]?)=some v):th w w1 (some b) b cap R:=by
 obtain⟨cs',g1,g2,g3,g4,g5,g6,g7,g8⟩:=lV vs o arr w hm hl;subst hw;have hb:b<w.heap.size:=by
  rcases Nat.lt_or_ge b w.heap.size with q|q
  ·exact q
  ·rw[Array.getElem?_eq_none q] at hm;cases hm
 exact⟨g4,g5,g6,by rw[g7];exact Nat.le_refl _,by rw[g7];exact hb,.inl rfl,fun k _ hn=>g8 k fun q=>hn (by rw[q]),cs',e,fr,g1,by rw[g2];exact hs,fun o ho=>hf o (by omega),fun j v hj=>by rw[g3];exact hR j v hj⟩
theorem wE{cs vs:List Value}{k:Nat}(hk:k≤cs.length)(hv:vs.length=7){j:Nat}{v:Value}(h:(cs.take k++vs++cs.drop k)[j]? =some v):
  (j<k∧cs[j]? =some v)∨(k≤j∧j<k+7∧vs[j-k]? =some v)∨(k+7≤j∧j<cs.length+7∧(cs.drop k)[j-(k+7)]? =some v):=by
 have h1:(cs.take k).length=k:=by simp;omega
 have hj:j<(cs.take k++vs++cs.drop k).length:=(List.getElem?_eq_some_iff.1 h).1;simp only[aC,h1,hv,List.length_drop] at hj;rw[ct,dO] at h;split at h
 ·rename_i c;rw[h1] at c;rw[cm,if_pos c] at h;exact .inl ⟨c,h⟩
 ·rename_i c;rw[h1] at c h;rw[dO] at h;split at h
  ·rename_i c2;exact .inr (.inl ⟨by omega,by omega,h⟩)
  ·rename_i c2;refine .inr (.inr ⟨by omega,by omega, ?_⟩);rw[hv] at h;rw[show j-(k+7)=j-k-7 by omega];exact h
theorem IH{f:Nat}{tS tE:TypeId}{bytes:Nat}{zero:List T}(hf:yd P F f=true)(he:iM P tS=some tE)(hsz:kZ P tE=some 7)(hby:pD P tE=some bytes)(hbytes:bytes≤4096)(hz:wi P zero tE=true)
  (hEnd:∀(base:Option Addr) (n c vb vc:Nat) (w w1:World) (val:Value),(base=none→n=0)→(∀a,base=some a→∃b,a=⟨b,0,none⟩)→n≤c→
   (∀ty,(Builtin.append_ #[tS,tS] ty #[.slice base n c,.slice (some ⟨vb,0,none⟩) 1 vc]).run P w= .ok val w1)→Calls P (F f) #[.slice base n c,.int .i64 n,.slice (some ⟨vb,0,none⟩) 1 vc] w fun e w'=>e= .returned val∧w'=w1)
  (hShift:∀(b n c i vb vc:Nat) (cs vs:List Value) (w:World),i<n→n+1≤c→n≤1048576→vb≠b→cs.length=n*7→vs.length=7→(∀j v,cs[j]? =some v→w.cell? ⟨b,j,none⟩=some v)→
   (∀j,j<(n+1)*7→(w.cell? ⟨b,j,none⟩).isSome=true)→(∀j,j<(n+1)*7→w.frozen? ⟨b,j,none⟩=false)→(∀j v,vs[j]? =some v→w.cell? ⟨vb,j,none⟩=some v)→(∀v∈cs,v.oneCell'=true)→(∀v∈vs,v.oneCell'=true)→
   ∀(tA tB:TypeId) (kA kB:Nat),w.shape? vb=some (tA,kA)→w.shape? b=some (tB,kB)→kB≠0→w.frozen? ⟨vb,0,none⟩=false→w.frozen? ⟨vb,kA,none⟩=false→
   Calls P (F f) #[.slice (some ⟨b,0,none⟩) n c,.int .i64 i,.slice (some ⟨vb,0,none⟩) 1 vc] w fun e w'=>
    e= .returned (.slice (some ⟨b,0,none⟩) (n+1) c)∧w'=(w.drew.setCells b ((i+1)*7) (cs.drop (i*7))).setCells b (i*7) vs)
  (hGrow:∀(b n c i vb vc:Nat) (cs vs:List Value) (w:World),i<n→n≤c→c<n+1→n≤1048576→cs.length=n*7→vs.length=7→(∀j v,cs[j]? =some v→w.cell? ⟨b,j,none⟩=some v)→(∀j v,vs[j]? =some v→w.cell? ⟨vb,j,none⟩=some v)→
   (∀v∈cs,v.oneCell'=true)→(∀v∈vs,v.oneCell'=true)→
   Calls P (F f) #[.slice (some ⟨b,0,none⟩) n c,.int .i64 i,.slice (some ⟨vb,0,none⟩) 1 vc] w fun e w'=>
    ∃(G:Nat) (row:Array Value),n+1≤G∧row.size=G*7∧e= .returned (.slice (some ⟨w.heap.size,0,none⟩) (n+1) G)∧(∀j,j<i*7→row[j]? =cs[j]?)∧
    w'=(((w.alloc (.cells row tE)).drew.setCells w.heap.size (i*7) vs).drew).setCells w.heap.size ((i+1)*7) (cs.drop (i*7))):vL P F f Cd:=by
 intro as lent res after hg;refine⟨hf,fun Pr E0 vals w En=> ?_⟩;unfold Cd at hg;split at hg;rotate_left
 ·cases hg
 rename_i len i ob ob2;split at hg;rotate_left
 ·cases hg
 rename_i hc;cases hg;obtain⟨⟨c1,c2,c3,c4,c5,c6⟩,c7,c8,c9⟩:=hc;obtain⟨m,rfl⟩:∃m:Nat,i=(m:Int):=⟨i.toNat,by omega⟩
 have hm:m≤len:=by omega
 simp only[eS];have hn:vals.size=3:=En.n.symm;obtain⟨x0,x1,x2,rfl⟩:∃x0 x1 x2,vals= #[x0,x1,x2]:=by
  obtain⟨l⟩:=vals
  match l,hn with
  |[a,b,c],_=>exact⟨a,b,c,rfl⟩
 have a0:=En.args 0 _ x0 rfl rfl;have a1:=En.args 1 _ x1 rfl rfl;have a2:=En.args 2 _ x2 rfl rfl;obtain⟨v1,_,w1,l1,hl1,hr1⟩:=En.n9 0 ob (by simp[get]);obtain⟨v2,_,w2,l2,hl2,hr2⟩:=En.n9 2 ob2 (by simp[get]);have hx1:x1= .int .i64 m:=by cases a1 with|c _ _ h=>cases h;rfl
 subst hx1;cases a2 with
 |c _ _ a2=>
 cases a2 with
 |row _ _ _ _ vcap vsz vb hvE _ _=>
 have hvE':E0 2=some (.kJ vb vcap vsz):=hvE;rw[hvE'] at hl2;cases hl2;obtain⟨e2,hob2⟩:=hr2;rw[c7] at e2;subst e2;obtain⟨xS,et2,fr2,n1,n2,n3,n4⟩:=hob2.mem;rw[c7] at n2 n4;have hvl1:1≤vcap:=by have:=hob2.len;omega
 obtain⟨hV,hVl⟩:=C_ hob2 c7 n1 1 (by omega);rw[ab (by omega:ob2.rows.length≤1)] at hV;simp only[Nat.one_mul] at hV hVl;obtain⟨vs,hvs⟩:∃vs,vs=xS.toList.take 7:=⟨_,rfl⟩
 rw[←hvs] at hV hVl;have n1':w.heap[vb]? =some (.cells xS et2 fr2):=n1;have hvcell:∀(j:Nat) (v:Value),vs[j]? =some v→w.cell? ⟨vb,j,none⟩=some v:=by
  intro j v hj;rw[hvs,cm] at hj;split at hj
  ·rw[Array.getElem?_toList] at hj;simp only[World.cell?,n1',Option.isSome_none,ay,if_false];exact hj
  ·cases hj
 have hfzv:∀o,o≤xS.size→w.frozen? ⟨vb,o,none⟩=false:=by
  intro o ho;have:=n3 o ho;simp only[World.frozen?,n1',Bool.and_eq_false_iff,decide_eq_false_iff_not];omega
 have hx2:(Value.slice (some ((hO vb).add (0*7))) 1 (vcap-0))= .slice (some ⟨vb,0,none⟩) 1 vcap:=by
  rw[ly];simp
 rw[hx2] at En ⊢;have hrows:∀(k:Nat) (r:List T),(ob.rows.take m++ob2.rows++(ob.rows.take len).drop m)[k]? =some r→(∃k':Nat,ob.rows[k']? =some r)∨∃k':Nat,ob2.rows[k']? =some r:=by
  intro k r h;rcases List.mem_append.1 (iZ h) with q|q
  ·rcases List.mem_append.1 q with q|q
   ·exact .inl (List.getElem?_of_mem (List.mem_of_mem_take q))
   ·exact .inr (List.getElem?_of_mem q)
  ·exact .inl (List.getElem?_of_mem (List.mem_of_mem_take (List.mem_of_mem_drop q)))
 have hlenR:(ob.rows.take m++ob2.rows++(ob.rows.take len).drop m).length=len+1:=by simp[c9];omega
 have hw2:∀(k:Nat) (r:List T),ob2.rows[k]? =some r→r.length=7:=by have:=hob2.width;rwa [c7] at this
 have fin:∀(hb:Option Nat) (hb0:∀b,hb=some b→∃cap,E0 0=some (.kJ b cap 7)) (b' cap':Nat) (R:List Value) (w':World),th w w' hb b' cap' R→len+1≤cap'→
   (∀(k j:Nat) (r:List T) (t:T),ob.rows[k]? =some r→r[j]? =some t→fx t)→(∀(k:Nat) (r:List T),ob.rows[k]? =some r→r.length=7)→
   ik (cx F Pr E0 [(0,ob),(2,ob2)] w) (ob.rows.take m++ob2.rows++(ob.rows.take len).drop m).flatten R→
   ∃val E' own,Ending.returned (.slice (some (hO b')) (len+1) cap')= .returned val∧CR F Pr E0 [(0,ob),(2,ob2)] w E' own (.c (.sl true 7 (ob.rows.take m++ob2.rows++(ob.rows.take len).drop m))) [(2,ob2)] val w':=by
  intro hb hb0 b' cap' R w' O hcap hcl hwd hR;have:=FX En c8 hb hb0 O (rows:=ob.rows.take m++ob2.rows++(ob.rows.take len).drop m) (by rw[hlenR];exact hcap) (fun k r h=>by
   rcases hrows k r h with⟨k',q⟩|⟨k',q⟩
   ·exact hwd k' r q
   ·exact hw2 k' r q) (fun k j r t h hj=>by
   rcases hrows k r h with⟨k',q⟩|⟨k',q⟩
   ·exact hcl k' j r t q hj
   ·exact hob2.cl c8 k' j r t q hj) hR
  rw[hlenR] at this;exact this
 obtain⟨zv,hzv,hzr,hzs,_⟩:=oy (P:=P) (X:=cx F Pr E0 [(0,ob),(2,ob2)] w) hz;have hzc:zv.cells.size=7:=by
  rw[hsz] at hzs;have h1:=hzr.1;simp at h1;have:=Option.some.inj hzs;omega
 have hlv:(Builtin.lenOf (.slice (some ⟨vb,0,none⟩) 1 vcap)).run P w= .ok 1 w:=by simp[Builtin.lenOf]
 have hnew:∀q,(Builtin.firstCells 7 1 (.slice (some ⟨vb,0,none⟩) 1 vcap)).run P {w with drawn:=q}= .ok vs.toArray {w with drawn:=q}:=fun q=>
  run_firstCells_some (P:=P) (w:={w with drawn:=q}) 7 1 ⟨vb,0,none⟩ 1 vcap vs (by omega) (fun j v hj=>by rw[show (⟨vb,0,none⟩:Addr)=hO vb from rfl,ly];exact hvcell j v hj)
 cases a0 with
 |c _ _ a0=>
 cases a0 with
 |oi _ _ hE=>
  have hE':E0 0=some .nil:=hE;rw[hE'] at hl1;cases hl1;have hrn:ob.rows=[]:=hr1.1;have hm0:m=0:=by omega
  subst hm0;have hgo:=(uQ (P:=P) (w:=w) (tyr:=tS) (base:=none) (sLen:=0) (sCap:=0) he hsz (jN he) (fun k=>by simp) hby hzv hzc hbytes (k:=1) (by omega) hlv hnew (m8:= #[]) (by intro q;simp[Builtin.firstCells]) (by simp) (by simp[hVl])).2 (by omega);obtain⟨cap,rest,w1,hcap,hrest,f1,f2,f3,f4,hr⟩:=hgo;refine(hEnd none 0 0 vb vcap w w1 _ (fun _=>rfl) (fun a h=>by cases h) (Nat.le_refl _) (fun ty=>hr)).mono ?_;rintro e w' ⟨rfl,rfl⟩;have O:th w w' none w.heap.size cap vs:=by
   refine⟨f1,f2,f3,by rw[f4];simp,by rw[f4];simp,.inr (Nat.le_refl _),fun k hk _=>by rw[f4,Array.getElem?_push,if_neg (by omega)],#[]++vs.toArray++rest,tE,(0,0),by rw[f4];exact Array.getElem?_push_size, ?_,by simp,fun j v hj=> ?_⟩
   ·simp only[Array.empty_append,Array.size_append,List.size_toArray,hVl,hrest];omega
   ·rw[Array.empty_append,Array.getElem?_append_left (by simpa using(List.getElem?_eq_some_iff.1 hj).1)];simpa using hj
  refine fin none (fun b h=>by cases h) w.heap.size cap vs w' O (by omega) (fun k j r t h=>by rw[hrn] at h;simp at h) (fun k r h=>by rw[hrn] at h;simp at h) ?_;simpa [hrn] using hV
 |row _ _ _ _ cap sz b hE hfit _=>
  have hE':E0 0=some (.kJ b cap sz):=hE;rw[hE'] at hl1;cases hl1;obtain⟨e1,hob⟩:=hr1;rw[c1] at e1;subst e1;obtain⟨arr,et,fr,m1,m2,m3,m4⟩:=hob.mem;rw[c1] at m2 m4;have m1':w.heap[b]? =some (.cells arr et fr):=m1;have hcl:∀(k j:Nat) (r:List T) (t:T),ob.rows[k]? =some r→r[j]? =some t→fx t:=hob.cl c2;have hwd:∀(k:Nat) (r:List T),ob.rows[k]? =some r→r.length=7:=by have:=hob.width;rwa [c1] at this
  have hlc:len≤cap:=by have:=hob.len;omega
  obtain⟨hC,hCl⟩:=C_ hob c1 m1 len c3;obtain⟨cs,hcs⟩:∃cs,cs=arr.toList.take (len*7):=⟨_,rfl⟩
  rw[←hcs] at hC hCl;have hccell:∀(j:Nat) (v:Value),cs[j]? =some v→arr[j]? =some v:=by
   intro j v hj;rw[hcs,cm] at hj;split at hj
   ·rwa [Array.getElem?_toList] at hj
   ·cases hj
  have hbcell:∀(j:Nat) (v:Value),cs[j]? =some v→w.cell? ⟨b,j,none⟩=some v:=by
   intro j v hj;simp only[World.cell?,m1',Option.isSome_none,ay,if_false];exact hccell j v hj
  have hfz:∀o,o≤arr.size→w.frozen? ⟨b,o,none⟩=false:=by
   intro o ho;have:=m3 o ho;simp only[World.frozen?,m1',Bool.and_eq_false_iff,decide_eq_false_iff_not];omega
  have h7:m*7≤cs.length:=by rw[hCl];omega
  have hx0:(Value.slice (some ((hO b).add (0*7))) len (cap-0))= .slice (some ⟨b,0,none⟩) len cap:=by
   rw[ly];simp
  rw[hx0];have hR:ik (cx F Pr E0 [(0,ob),(2,ob2)] w) (ob.rows.take m++ob2.rows++(ob.rows.take len).drop m).flatten (cs.take (m*7)++vs++cs.drop (m*7)):=by
   have hsp:(ob.rows.take len).flatten=(ob.rows.take m).flatten++((ob.rows.take len).drop m).flatten:=by
    rw[←List.flatten_append];congr 1;have:=(dm m (ob.rows.take len)).symm
    rwa [List.take_take,Nat.min_eq_left hm] at this
   have hfl:(ob.rows.take m).flatten.length=m*7:=by
    have:=lF (sz:=7) (rows:=ob.rows.take m) (qg hwd);rw[this];simp;omega
   have hA:=hC.take (m*7);have hD:=hC.drop (m*7);rw[hsp,List.take_left' hfl] at hA;rw[hsp,List.drop_left' hfl] at hD;rw[List.flatten_append,List.flatten_append];exact(hA.append hV).append hD
  have hbs:b<w.heap.size:=by
   rcases Nat.lt_or_ge b w.heap.size with q|q
   ·exact q
   ·rw[Array.getElem?_eq_none q] at m1';cases m1'
  have hb0:∀b_1,some b=some b_1→∃cap,E0 0=some (.kJ b_1 cap 7):=fun b1 h=>by cases h;exact⟨cap,hE'⟩
  have hbA:(⟨b,0,none⟩:Addr)=hO b:=rfl;by_cases hme:m=len
  ·subst hme;have hold:∀q,(Builtin.firstCells 7 m (.slice (some (hO b)) m cap)).run P {w with drawn:=q}= .ok cs.toArray {w with drawn:=q}:=fun q=>
    run_firstCells_some (P:=P) (w:={w with drawn:=q}) 7 m (hO b) m cap cs hCl (fun j v hj=>by rw[ly];exact hbcell j v hj)
   have hgo:=uQ (P:=P) (w:=w) (tyr:=tS) (base:=some (hO b)) (sLen:=m) (sCap:=cap) he hsz (jN he) (fun k=>by simp) hby hzv hzc hbytes (k:=1) (by omega) hlv hnew (m8:=cs.toArray) hold (by simp[hCl]) (by simp[hVl]);have hcsd:cs.drop (m*7)=[]:=eK (by omega);have hcst:cs.take (m*7)=cs:=ab (by omega);by_cases hroom:m+1≤cap
   ·have hst:=run_storeCells_cells (P:=P) b (m*7) vs 0 w (fun j hj=>by
      rw[World.cell?,m1'];simp only[Option.isSome_none,ay,if_false];rw[Array.getElem?_eq_getElem (by rw[m2];omega)];rfl) (fun j hj=>hfz _ (by rw[m2];omega)) hV.one
    have hrun:=hgo.1 hroom (w.setCells b (m*7+0) vs) (by simp only;rw[ly];exact hst);refine(hEnd (some ⟨b,0,none⟩) m cap vb vcap w _ _ (fun h=>by cases h) (fun a h=>⟨b,(Option.some.inj h).symm⟩) hlc (fun ty=>hrun)).mono ?_;rintro e w' ⟨rfl,rfl⟩;refine fin (some b) hb0 b cap _ _ (D8 (o:=m*7) (vs:=vs) m1' m2 m3 (by rw[m2,hVl];omega) rfl fun j v hj=> ?_) hroom hcl hwd hR;rcases wE h7 hVl hj with⟨q1,q2⟩|⟨q1,q2,q3⟩|⟨q1,q2,q3⟩
    ·rw[if_neg (by omega)];exact hccell j v q2
    ·rw[if_pos ⟨by omega,by omega⟩];simpa using q3
    ·rw[hcsd] at q3;simp at q3
   ·obtain⟨cap2,rest,w1,hcap,hrest,f1,f2,f3,f4,hr⟩:=hgo.2 (by omega);refine(hEnd (some ⟨b,0,none⟩) m cap vb vcap w w1 _ (fun h=>by cases h) (fun a h=>⟨b,(Option.some.inj h).symm⟩) hlc (fun ty=>hr)).mono ?_;rintro e w' ⟨rfl,rfl⟩;have O:th w w' none w.heap.size cap2 (cs.take (m*7)++vs++cs.drop (m*7)):=by
     refine⟨f1,f2,f3,by rw[f4];simp,by rw[f4];simp,.inr (Nat.le_refl _),fun k hk _=>by rw[f4,Array.getElem?_push,if_neg (by omega)],cs.toArray++vs.toArray++rest,tE,(0,0),by rw[f4];exact Array.getElem?_push_size, ?_,by simp,fun j v hj=> ?_⟩
     ·simp only[Array.size_append,List.size_toArray,hVl,hCl,hrest];omega
     ·rw[hcsd,hcst,eM] at hj;have hjl:j<(cs++vs).length:=(List.getElem?_eq_some_iff.1 hj).1;have e3:cs.toArray++vs.toArray=(cs++vs).toArray:=by simp
      rw[e3,Array.getElem?_append_left (by simpa using hjl)];simpa using hj
    exact fin none (fun b h=>by cases h) w.heap.size cap2 _ w' O hcap hcl hwd hR
  ·have hml:m<len:=by omega
   by_cases hroom:len+1≤cap
   ·refine(hShift b len cap m vb vcap cs vs w hml hroom c6 ?_ hCl hVl hbcell ?_ ?_ hvcell hC.one hV.one et2 et xS.size arr.size ?_ ?_ ?_ (hfzv 0 (Nat.zero_le _)) (hfzv _ (Nat.le_refl _))).mono ?_
    ·intro q;have:=En.pj 0 2 ob ob2 b cap 7 vcap 7 (by simp[get]) (by simp[get]) (by rw[v1];exact hE') (by rw[v2,hvE',q]);omega
    ·intro j hj;rw[World.cell?,m1'];simp only[Option.isSome_none,ay,if_false];have:(len+1)*7≤cap*7:=cB 7 hroom;rw[Array.getElem?_eq_getElem (by rw[m2];omega)];rfl
    ·intro j hj;have:(len+1)*7≤cap*7:=cB 7 hroom;exact hfz _ (by rw[m2];omega)
    ·simp[World.shape?,n1']
    ·simp[World.shape?,m1']
    ·rw[m2];omega
    ·rintro e w' ⟨rfl,rfl⟩;have hdl:(cs.drop (m*7)).length=len*7-m*7:=by rw[List.length_drop,hCl]
     have h8:(len+1)*7≤cap*7:=cB 7 hroom;obtain⟨arr3,g1,g2,g3,g4,g5,g6,g7,g8⟩:=lV (cs.drop (m*7)) ((m+1)*7) arr w.drew m1' (by rw[hdl,m2];omega);obtain⟨arr4,k1,k2,k3,k4,k5,k6,k7,k8⟩:=lV vs (m*7) arr3 _ g1 (by rw[hVl,g2,m2];omega);have O:th w ((w.drew.setCells b ((m+1)*7) (cs.drop (m*7))).setCells b (m*7) vs) (some b) b cap (cs.take (m*7)++vs++cs.drop (m*7)):=by
      refine⟨k4.trans g4,k5.trans g5,k6.trans g6,by rw[k7,g7];exact Nat.le_refl _,by rw[k7,g7];exact hbs,.inl rfl,fun q _ hq=>(k8 q fun z=>hq (by rw[z])).trans (g8 q fun z=>hq (by rw[z])),arr4,et,fr,k1,by rw[k2,g2,m2],fun o ho=>m3 o (by omega),fun j v hj=> ?_⟩;rw[k3,g3];rcases wE h7 hVl hj with⟨q1,q2⟩|⟨q1,q2,q3⟩|⟨q1,q2,q3⟩
      ·rw[if_neg (by omega),if_neg (by omega)];exact hccell j v q2
      ·rw[if_pos ⟨by omega,by omega⟩];exact q3
      ·rw[if_neg (by omega),if_pos ⟨by omega,by omega⟩,show j-(m+1)*7=j-(m*7+7) by omega];exact q3
     exact fin (some b) hb0 b cap _ _ O hroom hcl hwd hR
   ·refine(hGrow b len cap m vb vcap cs vs w hml hlc (by omega) c6 hCl hVl hbcell hvcell hC.one hV.one).mono ?_;rintro e w' ⟨G,row,hG,hrs,rfl,hrt,rfl⟩;have hdl:(cs.drop (m*7)).length=len*7-m*7:=by rw[List.length_drop,hCl]
    have h8:(len+1)*7≤G*7:=cB 7 hG;have hm0:((w.alloc (.cells row tE)).drew).heap[w.heap.size]? =some (.cells row tE (0,0)):=Array.getElem?_push_size;obtain⟨arr3,g1,g2,g3,g4,g5,g6,g7,g8⟩:=lV vs (m*7) row _ hm0 (by rw[hVl,hrs];omega);obtain⟨arr4,k1,k2,k3,k4,k5,k6,k7,k8⟩:=lV (cs.drop (m*7)) ((m+1)*7) arr3 (((w.alloc (.cells row tE)).drew.setCells w.heap.size (m*7) vs).drew) g1 (by rw[hdl,g2,hrs];omega);have hsz2:((w.alloc (.cells row tE)).drew).heap.size=w.heap.size+1:=Array.size_push ..;have O:th w ((((w.alloc (.cells row tE)).drew.setCells w.heap.size (m*7) vs).drew).setCells w.heap.size ((m+1)*7) (cs.drop (m*7))) none w.heap.size G (cs.take (m*7)++vs++cs.drop (m*7)):=by
     refine⟨k4.trans g4,k5.trans g5,k6.trans g6, ?_, ?_,.inr (Nat.le_refl _),fun q hq _=> ?_,arr4,tE,(0,0),k1,by rw[k2,g2,hrs],by simp,fun j v hj=> ?_⟩
     ·rw[k7];show w.heap.size≤(((w.alloc (.cells row tE)).drew.setCells w.heap.size (m*7) vs)).heap.size;rw[g7,hsz2];omega
     ·rw[k7];show w.heap.size<(((w.alloc (.cells row tE)).drew.setCells w.heap.size (m*7) vs)).heap.size;rw[g7,hsz2];omega
     ·refine(k8 q (by omega)).trans ((g8 q (by omega)).trans ?_);show (w.heap.push _)[q]? =_;rw[Array.getElem?_push,if_neg (by omega)]
     ·rw[k3,g3];rcases wE h7 hVl hj with⟨q1,q2⟩|⟨q1,q2,q3⟩|⟨q1,q2,q3⟩
      ·rw[if_neg (by omega),if_neg (by omega),hrt j q1];exact q2
      ·rw[if_neg (by omega),if_pos ⟨by omega,by omega⟩];exact q3
      ·rw[if_pos ⟨by omega,by omega⟩,show j-(m+1)*7=j-(m*7+7) by omega];exact q3
    exact fin none (fun b h=>by cases h) w.heap.size G _ _ O hG hcl hwd hR
end
end Mx
namespace Mx
open Go
def eZ.l0:C:= .seq (.aj [Q 10 (.bin .lss (.t 9) (.t 8))] [3,7,8,9,10] [6,17])
 (.seq (.cond (.t 10) (.skip) (.exit 0))
 (.seq (.block 1 (.seq (.aj [Qa 11 7 7 9,QL 12 7 11,Q 5 (.alloc [.int .i64 0,.str ⟨#[]⟩,.int .i64 0,.int .i64 0,.int .i64 0,.aO 4,.aO 1]),Qs 7 5 12] [3,5,7,8,9] [5,6,17])
 (.aj [Qm 13 3,QL 14 7 5,Q 15 (.call 155 [.t 14] [] []),Q 16 (.bL 7 1 [.int .i64 0,.str ⟨#[]⟩,.int .i64 0,.int .i64 0,.int .i64 0,.aO 4,.aO 1] [(0,.t 15)]),
   Q 17 (.app 7 96 (.t 13) (.t 16)),Qm 3 17] [3,7,8,9] [6,17])))
 (.aj [Q 18 (.bin .add (.t 9) (kI 1)),Qm 9 18] [3,7,8,9] [6,17])))
def eZ.b:C:= .seq (.aj [Q 2 (.nil 7)] [0] [])
 (.seq (.aj [Q 6 (.bL 7 0 [.int .i64 0,.str ⟨#[]⟩,.int .i64 0,.int .i64 0,.int .i64 0,.aO 4,.aO 1] []),Qm 3 6] [0,3] [6,17])
 (.seq (.seq (.aj [Qm 7 0,Q 8 (.len (.t 7)),Qi 9 0] [3,7,8,9] [6,17])
 (.block 0 (.loop eZ.l0)))
 (.seq (.aj [Qm 19 3,Qm 2 19] [2] [2,6,17])
 (.ret))))
def eZ.m:Fn:={np:=1,body:=eZ.b,res:=[.tmp 2]}
def eZ.k(M:Nat→Option Body):Prop:=M 270=some (.code eZ.m)∧cA.k M
def cr.b:C:= .seq (.aj [Qv 1 0,Q 2 (.alloc [.int .i64 0,.int .i64 0,.aO 7,.aO 1])] [1,2] [1,2,10900,11200])
 (.seq (.gf [Qf 3 0 1,Ql 4 3,Qf 5 1 1,Ql 6 5,Qf 7 2 1,Ql 8 7,Q 9 (.call 270 [.t 8] [] [(0,10900)]),Qf 10 3 1,Ql 11 10,Q 12 (.call 134 [.t 11] [] [(0,11200)]),
   Q 13 (.build [.int .i64 0,.int .i64 0,.aO 7,.aO 1] [(0,1,.t 4),(1,1,.t 6),(2,1,.t 9),(3,1,.t 12)]),Qs 4 2 13] [[],[0],[],[2],[],[4],[4,5],[],[7],[4,5,6,7,8],lr 10,lr 11] [2] [2,10900,11200])
 (.ret))
def cr.m:Fn:={np:=1,body:=cr.b,res:=[.cell 2 true 4]}
def cr.k(M:Nat→Option Body):Prop:=M 220=some (.code cr.m)∧fj.k M∧eZ.k M
def fO.l0:C:= .seq (.aj [Q 11 (.bin .lss (.t 10) (.t 9))] [1,2,8,9,10,11] [2])
 (.seq (.cond (.t 11) (.skip) (.exit 0))
 (.seq (.block 1 (.seq (.aj [Qa 12 7 8 10,QL 13 7 12,Q 6 (.alloc [.int .i64 0,.str ⟨#[]⟩,.int .i64 0,.int .i64 0,.int .i64 0,.aO 4,.aO 1]),Qs 7 6 13] [1,2,6,8,9,10] [2,6])
 (.seq (.aj [Qf 14 0 6,Ql 15 14,Qm 16 1,Q 17 (.bin .eql (.t 15) (.t 16)),Qm 18 17,Qg 19 (.load true 7 (.t 6)) 18 false,Qg 20 (.mv (.t 1)) 18 false,
   Qg 21 (.call 72 [.t 19,.t 20] [] []) 18 false,Qg 22 (.bin .geq (.t 21) (kI 0)) 18 false,Q 23 (.pick (.t 18) (kB true) (.t 22)),Qm 24 23,Qg 25 (.bK 6 (.t 6)) 24 false,
   Qg 26 (.load false 1 (.t 25)) 24 false,Qg 27 (.mv (.t 1)) 24 false,Qg 28 (.call 156 [.t 26,.t 27] [] []) 24 false,Q 29 (.pick (.t 24) (kB true) (.t 28))] [1,2,8,9,10,29] [2])
 (.cond (.t 29) (.seq (.aj [Qb 4 true] [4] [])
 (.ret)) (.skip)))))
 (.aj [Q 30 (.bin .add (.t 10) (kI 1)),Qm 10 30] [1,2,8,9,10] [2])))
def fO.b:C:= .seq (.aj [Qv 2 0,Qb 4 false] [1,2] [2])
 (.seq (.seq (.aj [Qf 7 2 2,Ql 8 7,Q 9 (.len (.t 8)),Qi 10 0] [1,2,8,9,10] [2])
 (.block 0 (.loop fO.l0)))
 (.seq (.aj [Qf 31 3 2,Ql 32 31,Qm 33 1,Q 34 (.call 156 [.t 32,.t 33] [] []),Qm 4 34] [4] [])
 (.ret)))
def fO.m:Fn:={np:=2,body:=fO.b,res:=[.tmp 4]}
def fO.k(M:Nat→Option Body):Prop:=M 413=some (.code fO.m)∧cJ.k M∧aL.k M
def eh.b:C:= .seq (.aj [Qv 1 0,Q 2 (.alloc [.int .i64 0,.int .i64 0])] [1,2] [1,2])
 (.seq (.aj [Qf 3 1 1,Ql 4 3,Q 5 (.bin .add (.t 4) (kI 1)),Qf 6 0 1,Ql 7 6,Q 8 (.build [.int .i64 0,.int .i64 0] [(0,1,.t 5),(1,1,.t 7)]),Qs 2 2 8] [2] [2])
 (.ret))
def eh.m:Fn:={np:=1,body:=eh.b,res:=[.cell 2 true 2]}
def eh.k(M:Nat→Option Body):Prop:=M 431=some (.code eh.m)
def gu.b:C:= .seq (.aj [Qv 2 0,Qv 3 1,Q 4 (.alloc [.int .i64 0,.int .i64 0,.aO 7,.aO 1]),Qb 5 false] [2,3,4] [2,3,4])
 (.seq (.seq (.aj [QL 6 4 2,Q 7 (.call 150 [.t 6] [] []),Q 8 (.not (.t 7))] [2,3,4,8] [2,3,4])
 (.cond (.t 8) (.seq (.aj [QL 9 4 3,Q 10 (.call 220 [.t 9] [] []),Qs 4 4 10,Qb 5 false] [4,5] [4])
 (.ret)) (.skip)))
 (.seq (.aj [QL 11 4 2,Qs 4 4 11,Qb 5 true] [4,5] [4])
 (.ret)))
def gu.m:Fn:={np:=2,body:=gu.b,res:=[.cell 4 true 4,.tmp 5]}
def gu.k(M:Nat→Option Body):Prop:=M 441=some (.code gu.m)∧aQ.k M∧cr.k M
def dh.l0:C:= .seq (.seq (.aj [Qm 27 9,Qf 28 2 8,Ql 29 28,Q 30 (.len (.t 29)),Q 31 (.bin .lss (.t 27) (.t 30)),Qm 32 31,Qg 33 (.bK 2 (.t 8)) 32 true,Qg 34 (.load false 1 (.t 33)) 32 true,
    Qg 35 (.mv (.t 9)) 32 true,Qg 36 (.lg 7 (.t 34) (.t 35)) 32 true,Qg 37 (.bK 0 (.t 36)) 32 true,Qg 38 (.load false 1 (.t 37)) 32 true,Qg 39 (.mv (.t 1)) 32 true,
    Qg 40 (.bin .lss (.t 38) (.t 39)) 32 true,Q 41 (.pick (.t 32) (.t 40) (kB false))] [1,2,3,6,8,9,41] [3,6,8,11102,11103,15700,16102,16103])
 (.cond (.t 41) (.skip) (.exit 0)))
 (.block 1 (.aj [Qm 42 9,Q 43 (.bin .add (.t 42) (kI 1)),Qm 9 43] [1,2,3,6,8,9] [3,6,8,11102,11103,15700,16102,16103]))
def dh.b:C:= .seq (.aj [Qv 3 0,Q 6 (.alloc [.int .i64 0,.int .i64 0,.aO 7,.aO 1]),Qb 7 false] [1,2,3,6] [3,6,11102,11103,15700])
 (.seq (.aj [QL 10 4 3,Q 11 (.call 220 [.t 10] [] [(2,11102),(3,11103)]),Q 8 (.alloc [.int .i64 0,.int .i64 0,.aO 7,.aO 1]),Qs 4 8 11] [1,2,3,6,8] [3,6,8,11102,11103,15700])
 (.seq (.seq (.aj [QL 12 4 3,Q 13 (.call 150 [.t 12] [] []),Q 14 (.not (.t 13)),Qm 15 14,Qg 16 (.load true 4 (.t 3)) 15 false,Qg 17 (.mv (.t 1)) 15 false,
   Qg 18 (.call 413 [.t 16,.t 17] [] []) 15 false,Q 19 (.pick (.t 15) (kB true) (.t 18)),Qm 20 19,Qg 21 (.load true 4 (.t 3)) 20 false,Qg 22 (.mv (.t 2)) 20 false,
   Qg 23 (.call 228 [.t 21,.t 22] [] []) 20 false,Qg 24 (.bin .geq (.t 23) (kI 0)) 20 false,Q 25 (.pick (.t 20) (kB true) (.t 24))] [1,2,3,6,8,25] [3,6,8,11102,11103,15700])
 (.cond (.t 25) (.seq (.shut [11102,11103,15700] (.aj [QL 26 4 8,Qs 4 6 26,Qb 7 false] [6,7] [6,11102,11103,15700]))
 (.ret)) (.skip)))
 (.seq (.aj [Qi 9 0] [1,2,3,6,8,9] [3,6,8,11102,11103,15700])
 (.seq (.block 0 (.loop dh.l0))
 (.seq (.aj [Qf 44 1 8,Ql 45 44,Q 46 (.bin .add (.t 45) (kI 1)),Qf 47 1 8,Qs 1 47 46] [1,2,3,6,8,9] [3,6,8,11102,11103,15700])
 (.seq (.gf [Qf 48 2 8,Ql 49 48,Qm 50 9,Qm 51 1,Qm 52 2,QL 53 4 3,Q 54 (.call 431 [.t 53] [] []),
   Q 55 (.build [.int .i64 0,.str ⟨#[]⟩,.int .i64 0,.int .i64 0,.int .i64 0,.aO 4,.aO 1] [(0,1,.t 51),(1,1,.t 52),(2,2,.t 54),(4,1,kI 1)]),
   Q 56 (.bL 7 1 [.int .i64 0,.str ⟨#[]⟩,.int .i64 0,.int .i64 0,.int .i64 0,.aO 4,.aO 1] [(0,.t 55)]),Q 57 (.call 440 [.t 49,.t 50,.t 56] [0,2] [(0,15700)]),
   Qf 58 2 8,Qs 1 58 57] [[],[0],[],[],[],[],[5],[3,4,5,6],[3,4,5,6,7],lr 9,lr 10,lr 11] [3,6,8] [3,6,8,11102,11103,15700])
 (.seq (.shut [11102,11103,15700] (.aj [QL 59 4 8,QL 60 4 3,Q 61 (.call 441 [.t 59,.t 60] [] []),Qx 62 0 61,Qx 63 1 61,Qs 4 6 62,Qm 7 63] [6,7] [6,11102,11103,15700]))
 (.ret))))))))
def dh.m:Fn:={np:=3,body:=dh.b,res:=[.cell 6 true 4,.tmp 7]}
def dh.k(M:Nat→Option Body):Prop:=M 409=some (.code dh.m)∧aQ.k M∧cr.k M∧dS.k M∧fO.k M∧eh.k M∧M 440=some (.ext Cd)∧gu.k M
def fq.b:C:= .seq (.aj [Qv 5 0,Q 10 (.alloc [.int .i64 0,.int .i64 0,.aO 7,.aO 1]),Qb 11 false] [1,2,3,4,5,10] [5,10,11702,11703])
 (.seq (.aj [QL 16 4 5,Q 17 (.call 220 [.t 16] [] [(2,11702),(3,11703)]),Q 12 (.alloc [.int .i64 0,.int .i64 0,.aO 7,.aO 1]),Qs 4 12 17] [1,2,3,4,5,10,12] [5,10,12,11702,11703])
 (.seq (.aj [QL 18 4 5,Qm 19 1,Q 20 (.call 95 [.t 18,.t 19] [] []),Qm 13 20] [2,3,4,5,10,12,13] [5,10,12,11702,11703])
 (.seq (.seq (.aj [QL 21 4 5,Q 22 (.call 150 [.t 21] [] []),Q 23 (.not (.t 22)),Qm 24 23,Qg 25 (.load true 4 (.t 5)) 24 false,Qg 26 (.mv (.t 2)) 24 false,
   Qg 27 (.call 413 [.t 25,.t 26] [] []) 24 false,Q 28 (.pick (.t 24) (kB true) (.t 27)),Qm 29 28,Qg 30 (.mv (.t 13)) 29 false,Qg 31 (.bin .lss (.t 30) (kI 0)) 29 false,
   Q 32 (.pick (.t 29) (kB true) (.t 31))] [2,3,4,5,10,12,13,32] [5,10,12,11702,11703])
 (.cond (.t 32) (.seq (.shut [11702,11703] (.aj [QL 33 4 12,Qs 4 10 33,Qb 11 false] [10,11] [10,11702,11703]))
 (.ret)) (.skip)))
 (.seq (.gf [Qf 35 2 5,Ql 36 35,Qm 37 13,Qa 38 7 36 37,QL 39 7 38,Qm 40 2,Qm 41 3,Qm 42 4,QL 43 4 5,Q 44 (.call 431 [.t 43] [] []),
   Q 45 (.call 70 [.t 39,.t 40,.t 41,.t 42,.t 44] [] []),Qm 34 45,Qx 46 0 34,Qx 47 1 34,
   Q 14 (.alloc [.int .i64 0,.str ⟨#[]⟩,.int .i64 0,.int .i64 0,.int .i64 0,.aO 4,.aO 1]),Qs 7 14 46,Qm 15 47] [[],[0],[],[0,1,2],lr 4,[],[],[],[],[8],lr 10,lr 11,lr 12,lr 12,[],lr 13++[14],lr 16] [5,10,12,13,14,15] [5,10,12,14,11702,11703])
 (.seq (.seq (.aj [Qm 48 15,Q 49 (.not (.t 48))] [5,10,12,13,14,49] [5,10,12,14,11702,11703])
 (.cond (.t 49) (.seq (.shut [11702,11703] (.aj [QL 50 4 12,Qs 4 10 50,Qb 11 false] [10,11] [10,11702,11703]))
 (.ret)) (.skip)))
 (.seq (.aj [Qf 51 1 12,Ql 52 51,Q 53 (.bin .add (.t 52) (kI 1)),Qf 54 1 12,Qs 1 54 53] [5,10,12,13,14] [5,10,12,14,11702,11703])
 (.seq (.aj [Qf 55 2 12,Ql 56 55,Qm 57 13,QL 58 7 14,Qa 59 7 56 57,Qs 7 59 58] [5,10,12] [5,10,12,11702,11703])
 (.seq (.shut [11702,11703] (.aj [QL 60 4 12,QL 61 4 5,Q 62 (.call 441 [.t 60,.t 61] [] []),Qx 63 0 62,Qx 64 1 62,Qs 4 10 63,Qm 11 64] [10,11] [10,11702,11703]))
 (.ret)))))))))
def fq.m:Fn:={np:=5,body:=fq.b,res:=[.cell 10 true 4,.tmp 11]}
def fq.k(M:Nat→Option Body):Prop:=M 410=some (.code fq.m)∧eC.k M∧gQ.k M∧aQ.k M∧cr.k M∧fO.k M∧eh.k M∧gu.k M
def ec.b:C:= .seq (.aj [Qv 3 0,Q 6 (.alloc [.int .i64 0,.int .i64 0,.aO 7,.aO 1]),Qb 7 false] [1,2,3,6] [3,6,11102,11103])
 (.seq (.aj [QL 10 4 3,Q 11 (.call 220 [.t 10] [] [(2,11102),(3,11103)]),Q 8 (.alloc [.int .i64 0,.int .i64 0,.aO 7,.aO 1]),Qs 4 8 11] [1,2,3,6,8] [3,6,8,11102,11103])
 (.seq (.aj [QL 12 4 3,Qm 13 1,Q 14 (.call 95 [.t 12,.t 13] [] []),Qm 9 14] [2,3,6,8,9] [3,6,8,11102,11103])
 (.seq (.seq (.aj [QL 15 4 3,Q 16 (.call 150 [.t 15] [] []),Q 17 (.not (.t 16)),Qm 18 17,Qg 19 (.mv (.t 9)) 18 false,Qg 20 (.bin .lss (.t 19) (kI 0)) 18 false,
   Q 21 (.pick (.t 18) (kB true) (.t 20)),Qm 22 21,Qg 23 (.load true 4 (.t 3)) 22 false,Qg 24 (.mv (.t 2)) 22 false,Qg 25 (.call 228 [.t 23,.t 24] [] []) 22 false,
   Qg 26 (.bin .geq (.t 25) (kI 0)) 22 false,Q 27 (.pick (.t 22) (kB true) (.t 26))] [2,3,6,8,9,27] [3,6,8,11102,11103])
 (.cond (.t 27) (.seq (.shut [11102,11103] (.aj [QL 28 4 8,Qs 4 6 28,Qb 7 false] [6,7] [6,11102,11103]))
 (.ret)) (.skip)))
 (.seq (.aj [Qf 29 1 8,Ql 30 29,Q 31 (.bin .add (.t 30) (kI 1)),Qf 32 1 8,Qs 1 32 31] [2,3,6,8,9] [3,6,8,11102,11103])
 (.seq (.aj [Qf 33 2 8,Ql 34 33,Qm 35 9,Qm 36 2,Qa 37 7 34 35,Qf 38 1 37,Qs 1 38 36] [3,6,8,9] [3,6,8,11102,11103])
 (.seq (.gf [Qf 39 2 8,Ql 40 39,Qm 41 9,QL 42 4 3,Q 43 (.call 431 [.t 42] [] []),Qa 44 7 40 41,Qf 45 2 44,Qs 2 45 43] [[],[0],[],[],[3],lr 5,lr 6,lr 7] [3,6,8] [3,6,8,11102,11103])
 (.seq (.shut [11102,11103] (.aj [QL 46 4 8,QL 47 4 3,Q 48 (.call 441 [.t 46,.t 47] [] []),Qx 49 0 48,Qx 50 1 48,Qs 4 6 49,Qm 7 50] [6,7] [6,11102,11103]))
 (.ret))))))))
def ec.m:Fn:={np:=3,body:=ec.b,res:=[.cell 6 true 4,.tmp 7]}
def ec.k(M:Nat→Option Body):Prop:=M 411=some (.code ec.m)∧gQ.k M∧aQ.k M∧cr.k M∧dS.k M∧eh.k M∧gu.k M
def bf.b:C:= .seq (.aj [Q 6 (.nil 7)] [0,1,2] [0,26])
 (.seq (.aj [Qm 8 0,Qm 9 1,Qm 10 2,Qm 11 0,Q 12 (.len (.t 11)),Q 13 (.vU 7 (.t 8) (some (.t 9)) (some (.t 10)) (some (.t 12)))] [0,1,2] [0,26])
 (.seq (.seq (.aj [Qm 14 1,Qm 15 2,Q 16 (.bin .eql (.t 14) (.t 15))] [0,1,2,16] [0,26])
 (.cond (.t 16) (.seq (.aj [Qm 17 0,Qm 6 17] [6] [0,6,26])
 (.ret)) (.skip)))
 (.seq (.aj [Qm 18 0,Q 19 (.len (.t 18)),Qm 7 19] [0,1,2,7] [0,26])
 (.seq (.gf [Qm 20 0,Qm 21 1,Q 22 (.vU 7 (.t 20) none (some (.t 21)) none),Qm 23 0,Qm 24 2,Q 25 (.vU 7 (.t 23) (some (.t 24)) none none),Q 26 (.yj 7 96 (.t 22) (.t 25)),Qm 0 26] [[],[],[0,1],[],[],[3,4],lr 6,lr 7] [0,7] [0,26])
 (.seq (.aj [Qm 27 0,Qm 28 0,Q 29 (.len (.t 28)),Qm 30 7,Q 31 (.x8 7 (.t 27) (some (.t 29)) (some (.t 30))),
   Qn (.EU [.int .i64 0,.str ⟨#[]⟩,.int .i64 0,.int .i64 0,.int .i64 0,.aO 4,.aO 1] (.t 31))] [0] [0,26])
 (.seq (.aj [Qm 32 0,Qm 6 32] [6] [0,6,26])
 (.ret)))))))
def bf.m:Fn:={np:=3,body:=bf.b,res:=[.tmp 6]}
def bf.k(M:Nat→Option Body):Prop:=M 442=some (.code bf.m)
def fX.b:C:= .seq (.aj [Qv 2 0,Q 4 (.alloc [.int .i64 0,.int .i64 0,.aO 7,.aO 1]),Qb 5 false] [1,2,4] [2,4,10902,10903,13200,13700])
 (.seq (.aj [QL 8 4 2,Q 9 (.call 220 [.t 8] [] [(2,10902),(3,10903)]),Q 6 (.alloc [.int .i64 0,.int .i64 0,.aO 7,.aO 1]),Qs 4 6 9] [1,2,4,6] [2,4,6,10902,10903,13200,13700])
 (.seq (.aj [QL 10 4 2,Qm 11 1,Q 12 (.call 95 [.t 10,.t 11] [] []),Qm 7 12] [1,2,4,6,7] [2,4,6,10902,10903,13200,13700])
 (.seq (.seq (.aj [QL 13 4 2,Q 14 (.call 150 [.t 13] [] []),Q 15 (.not (.t 14)),Qm 16 15,Qg 17 (.mv (.t 7)) 16 false,Qg 18 (.bin .lss (.t 17) (kI 0)) 16 false,
   Q 19 (.pick (.t 16) (kB true) (.t 18)),Qm 20 19,Qg 21 (.bK 3 (.t 2)) 20 false,Qg 22 (.load false 1 (.t 21)) 20 false,Qg 23 (.len (.t 22)) 20 false,
   Qg 24 (.bin .eql (.t 23) (kI 20)) 20 false,Q 25 (.pick (.t 20) (kB true) (.t 24))] [1,2,4,6,7,25] [2,4,6,10902,10903,13200,13700])
 (.cond (.t 25) (.seq (.shut [10902,10903,13200,13700] (.aj [QL 26 4 6,Qs 4 4 26,Qb 5 false] [4,5] [4,10902,10903,13200,13700]))
 (.ret)) (.skip)))
 (.seq (.aj [Qf 27 2 6,Ql 28 27,Qm 29 7,Qm 30 7,Q 31 (.bin .add (.t 30) (kI 1)),Q 32 (.call 442 [.t 28,.t 29,.t 31] [0] [(0,13200)]),Qf 33 2 6,Qs 1 33 32] [1,2,4,6] [2,4,6,10902,10903,13200,13700])
 (.seq (.aj [Qf 34 3 2,Ql 35 34,Qm 36 1,Q 37 (.call 163 [.t 35,.t 36] [] [(0,13700)]),Qf 38 3 6,Qs 1 38 37] [4,6] [4,6,10902,10903,13200,13700])
 (.seq (.shut [10902,10903,13200,13700] (.aj [QL 39 4 6,Qs 4 4 39,Qb 5 true] [4,5] [4,10902,10903,13200,13700]))
 (.ret)))))))
def fX.m:Fn:={np:=2,body:=fX.b,res:=[.cell 4 true 4,.tmp 5]}
def fX.k(M:Nat→Option Body):Prop:=M 412=some (.code fX.m)∧gQ.k M∧aQ.k M∧jv.k M∧cr.k M∧bf.k M
def fk.b:C:= .seq (.aj [Qv 4 0,Q 8 (.alloc [.int .i64 0,.int .i64 0,.aO 7,.aO 1]),Qb 9 false] [1,2,3,4,8] [4,8,11502,11503])
 (.seq (.aj [QL 14 4 4,Q 15 (.call 220 [.t 14] [] [(2,11502),(3,11503)]),Q 10 (.alloc [.int .i64 0,.int .i64 0,.aO 7,.aO 1]),Qs 4 10 15] [1,2,3,4,8,10] [4,8,10,11502,11503])
 (.seq (.aj [QL 16 4 4,Qm 17 1,Q 18 (.call 95 [.t 16,.t 17] [] []),Qm 11 18] [2,3,4,8,10,11] [4,8,10,11502,11503])
 (.seq (.seq (.aj [QL 19 4 4,Q 20 (.call 150 [.t 19] [] []),Q 21 (.not (.t 20)),Qm 22 21,Qg 23 (.mv (.t 11)) 22 false,Qg 24 (.bin .lss (.t 23) (kI 0)) 22 false,
   Q 25 (.pick (.t 22) (kB true) (.t 24))] [2,3,4,8,10,11,25] [4,8,10,11502,11503])
 (.cond (.t 25) (.seq (.shut [11502,11503] (.aj [QL 26 4 10,Qs 4 8 26,Qb 9 false] [8,9] [8,11502,11503]))
 (.ret)) (.skip)))
 (.seq (.gf [Qf 28 2 4,Ql 29 28,Qm 30 11,Qa 31 7 29 30,QL 32 7 31,Qm 33 2,Qm 34 3,QL 35 4 4,Q 36 (.call 431 [.t 35] [] []),Q 37 (.call 83 [.t 32,.t 33,.t 34,.t 36] [] []),Qm 27 37,
   Qx 38 0 27,Qx 39 1 27,Q 12 (.alloc [.int .i64 0,.str ⟨#[]⟩,.int .i64 0,.int .i64 0,.int .i64 0,.aO 4,.aO 1]),Qs 7 12 38,Qm 13 39] [[],[0],[],[0,1,2],lr 4,[],[],[],[7],lr 9,lr 10,lr 11,lr 11,[],lr 12++[13],lr 15] [4,8,10,11,12,13] [4,8,10,12,11502,11503])
 (.seq (.seq (.aj [Qm 40 13,Q 41 (.not (.t 40))] [4,8,10,11,12,41] [4,8,10,12,11502,11503])
 (.cond (.t 41) (.seq (.shut [11502,11503] (.aj [QL 42 4 10,Qs 4 8 42,Qb 9 false] [8,9] [8,11502,11503]))
 (.ret)) (.skip)))
 (.seq (.aj [Qf 43 1 10,Ql 44 43,Q 45 (.bin .add (.t 44) (kI 1)),Qf 46 1 10,Qs 1 46 45] [4,8,10,11,12] [4,8,10,12,11502,11503])
 (.seq (.aj [Qf 47 2 10,Ql 48 47,Qm 49 11,QL 50 7 12,Qa 51 7 48 49,Qs 7 51 50] [4,8,10] [4,8,10,11502,11503])
 (.seq (.shut [11502,11503] (.aj [QL 52 4 10,QL 53 4 4,Q 54 (.call 441 [.t 52,.t 53] [] []),Qx 55 0 54,Qx 56 1 54,Qs 4 8 55,Qm 9 56] [8,9] [8,11502,11503]))
 (.ret)))))))))
def fk.m:Fn:={np:=4,body:=fk.b,res:=[.cell 8 true 4,.tmp 9]}
def fk.k(M:Nat→Option Body):Prop:=M 428=some (.code fk.m)∧dR.k M∧gQ.k M∧aQ.k M∧cr.k M∧eh.k M∧gu.k M
def fm.b:C:= .seq (.aj [Qv 3 0,Q 6 (.alloc [.int .i64 0,.int .i64 0,.aO 7,.aO 1]),Qb 7 false] [1,2,3,6] [3,6,11302,11303])
 (.seq (.aj [QL 12 4 3,Q 13 (.call 220 [.t 12] [] [(2,11302),(3,11303)]),Q 8 (.alloc [.int .i64 0,.int .i64 0,.aO 7,.aO 1]),Qs 4 8 13] [1,2,3,6,8] [3,6,8,11302,11303])
 (.seq (.aj [QL 14 4 3,Qm 15 1,Q 16 (.call 95 [.t 14,.t 15] [] []),Qm 9 16] [2,3,6,8,9] [3,6,8,11302,11303])
 (.seq (.seq (.aj [QL 17 4 3,Q 18 (.call 150 [.t 17] [] []),Q 19 (.not (.t 18)),Qm 20 19,Qg 21 (.mv (.t 9)) 20 false,Qg 22 (.bin .lss (.t 21) (kI 0)) 20 false,
   Q 23 (.pick (.t 20) (kB true) (.t 22))] [2,3,6,8,9,23] [3,6,8,11302,11303])
 (.cond (.t 23) (.seq (.shut [11302,11303] (.aj [QL 24 4 8,Qs 4 6 24,Qb 7 false] [6,7] [6,11302,11303]))
 (.ret)) (.skip)))
 (.seq (.aj [Qf 26 2 3,Ql 27 26,Qm 28 9,Qa 29 7 27 28,QL 30 7 29,Qm 31 2,Q 32 (.call 73 [.t 30,.t 31] [] []),Qm 25 32,Qx 33 0 25,Qx 34 1 25,
   Q 10 (.alloc [.int .i64 0,.str ⟨#[]⟩,.int .i64 0,.int .i64 0,.int .i64 0,.aO 4,.aO 1]),Qs 7 10 33,Qm 11 34] [6,8,9,10,11] [6,8,10,11302,11303])
 (.seq (.seq (.aj [Qm 35 11,Q 36 (.not (.t 35))] [6,8,9,10,36] [6,8,10,11302,11303])
 (.cond (.t 36) (.seq (.shut [11302,11303] (.aj [QL 37 4 8,Qs 4 6 37,Qb 7 false] [6,7] [6,11302,11303]))
 (.ret)) (.skip)))
 (.seq (.aj [Qf 38 2 8,Ql 39 38,Qm 40 9,QL 41 7 10,Qa 42 7 39 40,Qs 7 42 41] [6,8] [6,8,11302,11303])
 (.seq (.shut [11302,11303] (.aj [QL 43 4 8,Qs 4 6 43,Qb 7 true] [6,7] [6,11302,11303]))
 (.ret))))))))
def fm.m:Fn:={np:=3,body:=fm.b,res:=[.cell 6 true 4,.tmp 7]}
def fm.k(M:Nat→Option Body):Prop:=M 429=some (.code fm.m)∧fW.k M∧gQ.k M∧aQ.k M∧cr.k M
def eV.l0:C:= .seq (.seq (.aj [Qm 10 6,Qm 11 1,Q 12 (.bin .lss (.t 10) (.t 11))] [0,1,5,6,12] [0,9,20])
 (.cond (.t 12) (.skip) (.exit 0)))
 (.seq (.block 1 (.aj [Qm 15 5,Qm 16 0,Q 17 (.call 131 [.t 16] [0] []),Q 18 (.q9 .u8 (.t 17)),Q 19 (.bL 1 1 [.int .u8 0] [(0,.t 18)]),Q 20 (.app 1 1 (.t 15) (.t 19)),Qm 5 20] [0,1,5,6] [0,9,20]))
 (.aj [Qm 13 6,Q 14 (.bin .add (.t 13) (kI 1)),Qm 6 14] [0,1,5,6] [0,9,20]))
def eV.b:C:= .seq (.aj [Q 4 (.mv (.k (.str ⟨#[]⟩)))] [0,1] [0])
 (.seq (.seq (.aj [Qm 7 1,Q 8 (.bin .gtr (.t 7) (kI 5000))] [0,1,8] [0])
 (.cond (.t 8) (.aj [Qi 1 5000] [0,1] [0]) (.skip)))
 (.seq (.aj [Q 9 (.bL 1 0 [.int .u8 0] []),Qm 5 9] [0,1,5] [0,9,20])
 (.seq (.seq (.aj [Qi 6 0] [0,1,5,6] [0,9,20])
 (.block 0 (.loop eV.l0)))
 (.seq (.aj [Qm 21 5,Q 22 (.CC (.t 21)),Qm 4 22] [4] [0])
 (.ret)))))
def eV.m:Fn:={np:=2,body:=eV.b,res:=[.tmp 4]}
def eV.k(M:Nat→Option Body):Prop:=M 465=some (.code eV.m)∧eW.k M
def cg.b:C:= .seq (.aj [Q 4 (.mv (.k (.str ⟨#[]⟩)))] [0,1] [0])
 (.seq (.seq (.aj [Qm 6 0,Q 7 (.call 125 [.t 6,kI 12] [0] [])] [0,1,7] [0])
 (.block 0 (.seq (.aj [Q 9 (.bin .eql (.t 7) (kI 0)),Qm 8 9] [0,1,7,8] [0])
 (.cond (.t 8) (.seq (.aj [Qm 10 1,Qm 11 0,Q 12 (.call 465 [.t 11,kI 1] [0] []),Q 13 (.bin .add (.t 10) (.t 12)),Qm 4 13] [4] [0])
 (.ret)) (.seq (.aj [Q 15 (.bin .eql (.t 7) (kI 1)),Qm 14 15] [0,1,7,14] [0])
 (.cond (.t 14) (.seq (.aj [Qm 16 1,Qm 17 0,Qm 18 1,Q 19 (.lu (.t 18)),Q 20 (.bin .add (.t 19) (kI 1)),Q 21 (.call 125 [.t 17,.t 20] [0] []),Q 22 (.og (.t 16) none (some (.t 21))),Qm 4 22] [4] [0])
 (.ret)) (.seq (.seq (.aj [Q 24 (.bin .eql (.t 7) (kI 2)),Qm 23 24] [0,1,7,23] [0])
 (.cond (.t 23) (.skip) (.aj [Q 25 (.bin .eql (.t 7) (kI 3)),Qm 23 25] [0,1,23] [0])))
 (.cond (.t 23) (.seq (.aj [Qm 26 1,Q 27 (.lu (.t 26)),Q 28 (.bin .gtr (.t 27) (kI 0))] [0,1,28] [0])
 (.cond (.t 28) (.seq (.aj [Qm 29 0,Qm 30 1,Q 31 (.lu (.t 30)),Q 32 (.call 125 [.t 29,.t 31] [0] []),Qm 5 32] [0,1,5] [0])
 (.seq (.gf [Qm 33 1,Qm 34 5,Q 35 (.og (.t 33) none (some (.t 34))),Qm 36 0,Q 37 (.call 465 [.t 36,kI 1] [0] []),Q 38 (.bin .add (.t 35) (.t 37)),Qm 39 1,Qm 40 5,
   Q 41 (.bin .add (.t 40) (kI 1)),Q 42 (.og (.t 39) (some (.t 41)) none),Q 43 (.bin .add (.t 38) (.t 42)),Qm 4 43] [[],[],[0,1],[],[3],lr 5,[],[],[7],[6,7,8],lr 10,lr 11] [4] [0])
 (.ret))) (.skip))) (.skip)))))))))
 (.seq (.aj [Qm 44 1,Qm 4 44] [4] [0])
 (.ret)))
def cg.m:Fn:={np:=2,body:=cg.b,res:=[.tmp 4]}
def cg.k(M:Nat→Option Body):Prop:=M 444=some (.code cg.m)∧aG.k M∧eV.k M
def gk.b:C:= .seq (.aj [Qv 2 0,Qv 3 1,Qb 4 false] [2,3] [2,3])
 (.seq (.aj [Qf 5 0 2,Ql 6 5,Qf 7 0 3,Ql 8 7,Q 9 (.bin .eql (.t 6) (.t 8)),Qm 10 9,Qg 11 (.bK 1 (.t 2)) 10 true,Qg 12 (.load false 1 (.t 11)) 10 true,Qg 13 (.bK 1 (.t 3)) 10 true,
   Qg 14 (.load false 1 (.t 13)) 10 true,Qg 15 (.bin .eql (.t 12) (.t 14)) 10 true,Q 16 (.pick (.t 10) (.t 15) (kB false)),Qm 17 16,Qg 18 (.load true 4 (.t 2)) 17 true,
   Qg 19 (.load true 4 (.t 3)) 17 true,Qg 20 (.call 31 [.t 18,.t 19] [] []) 17 true,Q 21 (.pick (.t 17) (.t 20) (kB false)),Qm 4 21] [4] [])
 (.ret))
def gk.m:Fn:={np:=2,body:=gk.b,res:=[.tmp 4]}
def gk.k(M:Nat→Option Body):Prop:=M 421=some (.code gk.m)∧df.k M
def ie.b:C:= .seq (.aj [Q 2 (.mv (.k (.str ⟨#[]⟩)))] [0] [])
 (.seq (.aj [Qm 3 0,Q 4 (.bin .shr (.t 3) (.k (.int .u64 24))),Q 5 (.q9 .u8 (.t 4)),Qm 6 0,Q 7 (.bin .shr (.t 6) (.k (.int .u64 16))),Q 8 (.q9 .u8 (.t 7)),Qm 9 0,
   Q 10 (.bin .shr (.t 9) (.k (.int .u64 8))),Q 11 (.q9 .u8 (.t 10)),Qm 12 0,Q 13 (.q9 .u8 (.t 12)),
   Q 14 (.bL 1 4 [.int .u8 0] [(0,.t 5),(1,.t 8),(2,.t 11),(3,.t 13)]),Q 15 (.CC (.t 14)),Qm 2 15] [2] [])
 (.ret))
def ie.m:Fn:={np:=1,body:=ie.b,res:=[.tmp 2]}
def ie.k(M:Nat→Option Body):Prop:=M 202=some (.code ie.m)
def cM.l1:C:= .seq (.seq (.aj [Qm 20 6,Q 21 (.bin .lss (.t 20) (kI 8))] [0,1,5,6,21] [])
 (.cond (.t 21) (.skip) (.exit 2)))
 (.seq (.block 3 (.seq (.aj [Qm 24 0,Q 25 (.bin .rem (.t 24) (.k (.int .u32 2))),Q 26 (.bin .eql (.t 25) (.k (.int .u32 1))),Qm 7 26] [0,1,5,6,7] [])
 (.seq (.aj [Qm 27 0,Q 28 (.bin .quo (.t 27) (.k (.int .u32 2))),Qm 0 28] [0,1,5,6,7] [])
 (.seq (.aj [Qm 29 7] [0,1,5,6,29] [])
 (.cond (.t 29) (.aj [Qm 30 0,Q 31 (.bin .xor (.t 30) (.k (.int .u32 3558460437))),Qm 0 31] [0,1,5,6] []) (.skip))))))
 (.aj [Qm 22 6,Q 23 (.bin .add (.t 22) (kI 1)),Qm 6 23] [0,1,5,6] []))
def cM.l0:C:= .seq (.seq (.aj [Qm 8 5,Qm 9 1,Q 10 (.lu (.t 9)),Q 11 (.bin .lss (.t 8) (.t 10))] [0,1,5,11] [])
 (.cond (.t 11) (.skip) (.exit 0)))
 (.seq (.block 1 (.seq (.aj [Qm 14 0,Qm 15 1,Qm 16 5,Q 17 (.idx (.t 15) (.t 16)),Q 18 (.q9 .u32 (.t 17)),Q 19 (.bin .xor (.t 14) (.t 18)),Qm 0 19] [0,1,5] [])
 (.seq (.aj [Qi 6 0] [0,1,5,6] [])
 (.block 2 (.loop cM.l1)))))
 (.aj [Qm 12 5,Q 13 (.bin .add (.t 12) (kI 1)),Qm 5 13] [0,1,5] []))
def cM.b:C:= .seq (.aj [Q 4 (.mv (.k (.int .u32 0)))] [0,1] [])
 (.seq (.seq (.aj [Qi 5 0] [0,1,5] [])
 (.block 0 (.loop cM.l0)))
 (.seq (.aj [Qm 32 0,Qm 4 32] [4] [])
 (.ret)))
def cM.m:Fn:={np:=2,body:=cM.b,res:=[.tmp 4]}
def cM.k(M:Nat→Option Body):Prop:=M 248=some (.code cM.m)
def ju.b:C:= .seq (.aj [Q 2 (.mv (.k (.int .u32 0)))] [0] [])
 (.seq (.aj [Qm 3 0,Q 4 (.call 248 [.k (.int .u32 4294967295),.t 3] [] []),Qm 2 4] [2] [])
 (.ret))
def ju.m:Fn:={np:=1,body:=ju.b,res:=[.tmp 2]}
def ju.k(M:Nat→Option Body):Prop:=M 201=some (.code ju.m)∧cM.k M
def cN.l1:C:= .seq (.aj [Q 20 (.bin .lss (.t 19) (kI 8))] [0,1,5,19,20] [])
 (.seq (.cond (.t 20) (.skip) (.exit 2))
 (.seq (.block 3 (.seq (.aj [Qm 21 0,Q 22 (.bin .and (.t 21) (.k (.int .u32 1))),Qm 6 22] [0,1,5,6,19] [])
 (.seq (.aj [Qm 23 0,Q 24 (.bin .shr (.t 23) (.k (.int .u64 1))),Qm 0 24] [0,1,5,6,19] [])
 (.seq (.aj [Qm 25 6,Q 26 (.bin .eql (.t 25) (.k (.int .u32 1)))] [0,1,5,19,26] [])
 (.cond (.t 26) (.aj [Qm 27 0,Q 28 (.bin .xor (.t 27) (.k (.int .u32 3558460437))),Qm 0 28] [0,1,5,19] []) (.skip))))))
 (.aj [Q 29 (.bin .add (.t 19) (kI 1)),Qm 19 29] [0,1,5,19] [])))
def cN.l0:C:= .seq (.seq (.aj [Qm 7 5,Qm 8 1,Q 9 (.lu (.t 8)),Q 10 (.bin .lss (.t 7) (.t 9))] [0,1,5,10] [])
 (.cond (.t 10) (.skip) (.exit 0)))
 (.seq (.block 1 (.seq (.aj [Qm 13 0,Qm 14 1,Qm 15 5,Q 16 (.idx (.t 14) (.t 15)),Q 17 (.q9 .u32 (.t 16)),Q 18 (.bin .xor (.t 13) (.t 17)),Qm 0 18] [0,1,5] [])
 (.seq (.aj [Qi 19 0] [0,1,5,19] [])
 (.block 2 (.loop cN.l1)))))
 (.aj [Qm 11 5,Q 12 (.bin .add (.t 11) (kI 1)),Qm 5 12] [0,1,5] []))
def cN.b:C:= .seq (.aj [Q 4 (.mv (.k (.int .u32 0)))] [0,1] [])
 (.seq (.seq (.aj [Qi 5 0] [0,1,5] [])
 (.block 0 (.loop cN.l0)))
 (.seq (.aj [Qm 30 0,Qm 4 30] [4] [])
 (.ret)))
def cN.m:Fn:={np:=2,body:=cN.b,res:=[.tmp 4]}
def cN.k(M:Nat→Option Body):Prop:=M 249=some (.code cN.m)
def jR.b:C:= .seq (.aj [Q 2 (.mv (.k (.int .u32 0)))] [0] [])
 (.seq (.aj [Qm 3 0,Q 4 (.call 249 [.k (.int .u32 4294967295),.t 3] [] []),Qm 2 4] [2] [])
 (.ret))
def jR.m:Fn:={np:=1,body:=jR.b,res:=[.tmp 2]}
def jR.k(M:Nat→Option Body):Prop:=M 203=some (.code jR.m)∧cN.k M
def iQ.b:C:= .seq (.aj [Q 2 (.mv (.k (.str ⟨#[]⟩))),Qb 3 false] [0] [])
 (.seq (.seq (.aj [Qm 4 0,Q 5 (.lu (.t 4)),Q 6 (.bin .gtr (.t 5) (kI 20000))] [0,6] [])
 (.cond (.t 6) (.seq (.aj [Q 2 (.mv (.k (.str ⟨#[]⟩))),Qb 3 false] [2,3] [])
 (.ret)) (.skip)))
 (.seq (.aj [Qm 7 0,Qm 8 0,Q 9 (.call 201 [.t 8] [] []),Q 10 (.call 202 [.t 9] [] []),Q 11 (.bin .add (.t 7) (.t 10)),Qm 2 11,Qb 3 true] [2,3] [])
 (.ret)))
def iQ.m:Fn:={np:=1,body:=iQ.b,res:=[.tmp 2,.tmp 3]}
def iQ.k(M:Nat→Option Body):Prop:=M 100=some (.code iQ.m)∧ju.k M∧ie.k M
def fg.b:C:= .seq (.aj [Q 2 (.mv (.k (.str ⟨#[]⟩))),Qb 3 false] [0] [])
 (.seq (.aj [Qm 5 0,Q 6 (.lu (.t 5)),Q 7 (.bin .sub (.t 6) (kI 4)),Qm 4 7] [0,4] [])
 (.seq (.seq (.gf [Qm 8 4,Q 9 (.bin .lss (.t 8) (kI 0)),Qm 10 9,Qg 11 (.mv (.t 4)) 10 false,Qg 12 (.bin .gtr (.t 11) (kI 20000)) 10 false,Q 13 (.pick (.t 10) (kB true) (.t 12)),Qm 14 13,
   Qg 15 (.mv (.t 0)) 14 false,Qg 16 (.mv (.t 4)) 14 false,Qg 17 (.og (.t 15) (some (.t 16)) none) 14 false,Qg 18 (.mv (.t 0)) 14 false,Qg 19 (.mv (.t 4)) 14 false,
   Qg 20 (.og (.t 18) none (some (.t 19))) 14 false,Qg 21 (.call 201 [.t 20] [] []) 14 false,Qg 22 (.call 202 [.t 21] [] []) 14 false,Qg 23 (.bin .neq (.t 17) (.t 22)) 14 false,
   Q 24 (.pick (.t 14) (kB true) (.t 23))] [[],[0],[0,1],[0,1,2],[0,1,2,3],[0,1,2,3,4],[0,1,2,3,4,5],[0,1,2,3,4,5,6],[0,1,2,3,4,5,6],[0,1,2,3,4,5,6,7,8],[0,1,2,3,4,5,6],[0,1,2,3,4,5,6],[0,1,2,3,4,5,6,10,11],[0,1,2,3,4,5,6,10,11,12],[0,1,2,3,4,5,6,10,11,12,13],[0,1,2,3,4,5,6,7,8,9,10,11,12,13,14],[0,1,2,3,4,5,6,7,8,9,10,11,12,13,14,15]] [0,4,24] [])
 (.cond (.t 24) (.seq (.aj [Q 2 (.mv (.k (.str ⟨#[]⟩))),Qb 3 false] [2,3] [])
 (.ret)) (.skip)))
 (.seq (.aj [Qm 25 0,Qm 26 4,Q 27 (.og (.t 25) none (some (.t 26))),Qm 2 27,Qb 3 true] [2,3] [])
 (.ret))))
def fg.m:Fn:={np:=1,body:=fg.b,res:=[.tmp 2,.tmp 3]}
def fg.k(M:Nat→Option Body):Prop:=M 167=some (.code fg.m)∧ju.k M∧ie.k M
def hQ.b:C:= .seq (.aj [Qi 4 0] [0,1] [])
 (.seq (.gf [Qm 5 0,Qm 6 1,Q 7 (.idx (.t 5) (.t 6)),Q 8 (.q9 .i64 (.t 7)),Q 9 (.bin .shl (.t 8) (.k (.int .u64 24))),Qm 10 0,Qm 11 1,Q 12 (.bin .add (.t 11) (kI 1)),
   Q 13 (.idx (.t 10) (.t 12)),Q 14 (.q9 .i64 (.t 13)),Q 15 (.bin .shl (.t 14) (.k (.int .u64 16))),Q 16 (.bin .or (.t 9) (.t 15)),Qm 17 0,Qm 18 1,
   Q 19 (.bin .add (.t 18) (kI 2)),Q 20 (.idx (.t 17) (.t 19)),Q 21 (.q9 .i64 (.t 20)),Q 22 (.bin .shl (.t 21) (.k (.int .u64 8))),Q 23 (.bin .or (.t 16) (.t 22)),Qm 24 0,
   Qm 25 1,Q 26 (.bin .add (.t 25) (kI 3)),Q 27 (.idx (.t 24) (.t 26)),Q 28 (.q9 .i64 (.t 27)),Q 29 (.bin .or (.t 23) (.t 28)),Qm 4 29] [[],[],[0,1],[0,1,2],[0,1,2,3],[],[],[6],[5,6,7],[5,6,7,8],[5,6,7,8,9],[0,1,2,3,4,5,6,7,8,9,10],[],[],[13],[12,13,14],[12,13,14,15],[12,13,14,15,16],[0,1,2,3,4,5,6,7,8,9,10,11,12,13,14,15,16,17],[],[],[20],[19,20,21],[19,20,21,22],[0,1,2,3,4,5,6,7,8,9,10,11,12,13,14,15,16,17,18,19,20,21,22,23],[0,1,2,3,4,5,6,7,8,9,10,11,12,13,14,15,16,17,18,19,20,21,22,23,24]] [4] [])
 (.ret))
def hQ.m:Fn:={np:=2,body:=hQ.b,res:=[.tmp 4]}
def hQ.k(M:Nat→Option Body):Prop:=M 236=some (.code hQ.m)
def f_.b:C:= .seq (.aj [Q 2 (.mv (.k (.str ⟨#[]⟩))),Qb 3 false] [0] [])
 (.seq (.aj [Qm 5 0,Q 6 (.lu (.t 5)),Q 7 (.bin .sub (.t 6) (kI 4)),Qm 4 7] [0,4] [])
 (.seq (.seq (.aj [Qm 8 4,Q 9 (.call 101 [.t 8,kI 0,kI 20000] [] []),Q 10 (.not (.t 9)),Qm 11 10,Qg 12 (.mv (.t 0)) 11 false,Qg 13 (.mv (.t 4)) 11 false,
   Qg 14 (.og (.t 12) none (some (.t 13))) 11 false,Qg 15 (.call 203 [.t 14] [] []) 11 false,Qg 16 (.q9 .i64 (.t 15)) 11 false,Qg 17 (.mv (.t 0)) 11 false,
   Qg 18 (.mv (.t 4)) 11 false,Qg 19 (.call 236 [.t 17,.t 18] [] []) 11 false,Qg 20 (.bin .neq (.t 16) (.t 19)) 11 false,Q 21 (.pick (.t 11) (kB true) (.t 20))] [0,4,21] [])
 (.cond (.t 21) (.seq (.aj [Q 2 (.mv (.k (.str ⟨#[]⟩))),Qb 3 false] [2,3] [])
 (.ret)) (.skip)))
 (.seq (.aj [Qm 22 0,Qm 23 4,Q 24 (.og (.t 22) none (some (.t 23))),Qm 2 24,Qb 3 true] [2,3] [])
 (.ret))))
def f_.m:Fn:={np:=1,body:=f_.b,res:=[.tmp 2,.tmp 3]}
def f_.k(M:Nat→Option Body):Prop:=M 168=some (.code f_.m)∧cj.k M∧jR.k M∧hQ.k M
def bS.b:C:= .seq (.aj [Qi 2 0] [0] [0])
 (.seq (.gf [Qm 7 0,Q 8 (.j1 (.t 7)),Qf 9 0 8,Ql 10 9,Qm 11 0,Q 12 (.j1 (.t 11)),Qf 13 1 12,Ql 14 13,Q 15 (.call 231 [.t 10,.t 14] [] []),Qm 6 15,Qx 16 0 6,Qx 17 1 6,Qx 18 2 6,
   Qm 3 16,Qm 4 17,Qm 5 18] [[],[0],[0,1],[0,1,2],[],[4],[4,5],[4,5,6],lr 8,lr 9,lr 10,lr 10,lr 10,lr 11,lr 12++[13],lr 15] [0,3,4,5] [0])
 (.seq (.seq (.aj [Qm 19 0,Q 20 (.j1 (.t 19)),Qf 21 2 20,Ql 22 21,Qm 23 22,Qg 24 (.mv (.t 5)) 23 false,Qg 25 (.not (.t 24)) 23 false,Q 26 (.pick (.t 23) (kB true) (.t 25))] [0,3,4,26] [0])
 (.cond (.t 26) (.seq (.aj [Qm 27 0,Q 28 (.j1 (.t 27)),Qf 29 2 28,Qn (.store 1 (.t 29) (kB true))] [] [0])
 (.seq (.aj [Qi 2 0] [2] [0])
 (.ret))) (.skip)))
 (.seq (.aj [Qm 30 0,Qm 31 4,Q 32 (.j1 (.t 30)),Qf 33 1 32,Qs 1 33 31] [3] [0])
 (.seq (.aj [Qm 34 3,Qm 2 34] [2] [0])
 (.ret)))))
def bS.m:Fn:={np:=1,body:=bS.b,res:=[.tmp 2]}
def bS.k(M:Nat→Option Body):Prop:=M 152=some (.code bS.m)∧cw.k M
def dZ.b:C:= .seq (.aj [Qi 4 0] [0,1] [0])
 (.seq (.aj [Qm 6 0,Q 7 (.call 152 [.t 6] [0] []),Qm 5 7] [0,1,5] [0])
 (.seq (.seq (.aj [Qm 8 5,Qm 9 1,Q 10 (.bin .gtr (.t 8) (.t 9))] [0,5,10] [0])
 (.cond (.t 10) (.aj [Qm 11 0,Q 12 (.j1 (.t 11)),Qf 13 2 12,Qn (.store 1 (.t 13) (kB true))] [0,5] [0]) (.skip)))
 (.seq (.seq (.aj [Qm 14 0,Q 15 (.j1 (.t 14)),Qf 16 2 15,Ql 17 16] [5,17] [0])
 (.cond (.t 17) (.seq (.aj [Qi 4 0] [4] [0])
 (.ret)) (.skip)))
 (.seq (.aj [Qm 18 5,Qm 4 18] [4] [0])
 (.ret)))))
def dZ.m:Fn:={np:=2,body:=dZ.b,res:=[.tmp 4]}
def dZ.k(M:Nat→Option Body):Prop:=M 169=some (.code dZ.m)∧bS.k M
def eH.b:C:= .seq (.aj [Q 2 (.mv (.k (.str ⟨#[]⟩)))] [0] [0])
 (.seq (.gf [Qm 7 0,Q 8 (.j1 (.t 7)),Qf 9 0 8,Ql 10 9,Qm 11 0,Q 12 (.j1 (.t 11)),Qf 13 1 12,Ql 14 13,Q 15 (.call 207 [.t 10,.t 14] [] []),Qm 6 15,Qx 16 0 6,Qx 17 1 6,Qx 18 2 6,
   Qm 3 16,Qm 4 17,Qm 5 18] [[],[0],[0,1],[0,1,2],[],[4],[4,5],[4,5,6],lr 8,lr 9,lr 10,lr 10,lr 10,lr 11,lr 12++[13],lr 15] [0,3,4,5] [0])
 (.seq (.seq (.aj [Qm 19 0,Q 20 (.j1 (.t 19)),Qf 21 2 20,Ql 22 21,Qm 23 22,Qg 24 (.mv (.t 5)) 23 false,Qg 25 (.not (.t 24)) 23 false,Q 26 (.pick (.t 23) (kB true) (.t 25))] [0,3,4,26] [0])
 (.cond (.t 26) (.seq (.aj [Qm 27 0,Q 28 (.j1 (.t 27)),Qf 29 2 28,Qn (.store 1 (.t 29) (kB true))] [] [0])
 (.seq (.aj [Q 2 (.mv (.k (.str ⟨#[]⟩)))] [2] [0])
 (.ret))) (.skip)))
 (.seq (.aj [Qm 30 0,Qm 31 4,Q 32 (.j1 (.t 30)),Qf 33 1 32,Qs 1 33 31] [3] [0])
 (.seq (.aj [Qm 34 3,Qm 2 34] [2] [0])
 (.ret)))))
def eH.m:Fn:={np:=1,body:=eH.b,res:=[.tmp 2]}
def eH.k(M:Nat→Option Body):Prop:=M 153=some (.code eH.m)∧ee.k M
def fD.b:C:= .seq (.aj [Q 2 (.alloc [.int .i64 0,.int .i64 0])] [0,2] [0,2])
 (.seq (.aj [Qm 4 0,Q 5 (.call 152 [.t 4] [0] []),Q 6 (.build [.int .i64 0,.int .i64 0] [(0,1,.t 5)]),Q 3 (.alloc [.int .i64 0,.int .i64 0]),Qs 2 3 6] [0,2,3] [0,2,3])
 (.seq (.aj [Qm 7 0,Q 8 (.call 152 [.t 7] [0] []),Qf 9 1 3,Qs 1 9 8] [2,3] [0,2,3])
 (.seq (.aj [QL 10 2 3,Qs 2 2 10] [2] [0,2])
 (.ret))))
def fD.m:Fn:={np:=1,body:=fD.b,res:=[.cell 2 true 2]}
def fD.k(M:Nat→Option Body):Prop:=M 222=some (.code fD.m)∧bS.k M
def dC.l0:C:= .seq (.aj [Q 14 (.bin .lss (.t 13) (.t 12))] [0,5,12,13,14] [0,8,20])
 (.seq (.cond (.t 14) (.skip) (.exit 0))
 (.seq (.block 1 (.seq (.aj [Qm 15 0,Q 16 (.call 152 [.t 15] [0] []),Qm 7 16] [0,5,7,12,13] [0,8,20])
 (.aj [Qm 17 5,Qm 18 7,Q 19 (.bL 1 1 [.int .i64 0] [(0,.t 18)]),Q 20 (.app 1 8 (.t 17) (.t 19)),Qm 5 20] [0,5,12,13] [0,8,20])))
 (.aj [Q 21 (.bin .add (.t 13) (kI 1)),Qm 13 21] [0,5,12,13] [0,8,20])))
def dC.b:C:= .seq (.aj [Q 4 (.nil 1)] [0,1] [0])
 (.seq (.aj [Q 8 (.bL 1 0 [.int .i64 0] []),Qm 5 8] [0,1,5] [0,8,20])
 (.seq (.aj [Qm 9 0,Qm 10 1,Q 11 (.call 169 [.t 9,.t 10] [0] []),Qm 6 11] [0,5,6] [0,8,20])
 (.seq (.seq (.aj [Qm 12 6,Qi 13 0] [0,5,12,13] [0,8,20])
 (.block 0 (.loop dC.l0)))
 (.seq (.aj [Qm 22 5,Qm 4 22] [4] [0,4,8,20])
 (.ret)))))
def dC.m:Fn:={np:=2,body:=dC.b,res:=[.tmp 4]}
def dC.k(M:Nat→Option Body):Prop:=M 170=some (.code dC.m)∧bS.k M∧dZ.k M
def d_.l0:C:= .seq (.aj [Q 12 (.bin .lss (.t 11) (kI 3))] [0,2,3,11,12] [0,2,3,23])
 (.seq (.cond (.t 12) (.skip) (.exit 0))
 (.seq (.block 1 (.seq (.aj [Qm 13 0,Q 14 (.call 152 [.t 13] [0] []),Q 15 (.build [.int .i64 0,.int .i64 0,.int .i64 0] [(0,1,.t 14)]),Q 4 (.alloc [.int .i64 0,.int .i64 0,.int .i64 0]),Qs 3 4 15] [0,2,3,4,11] [0,2,3,4,23])
 (.seq (.aj [Qm 16 0,Q 17 (.call 222 [.t 16] [0] []),Qf 18 1 4,Qs 2 18 17] [0,2,3,4,11] [0,2,3,4,23])
 (.aj [Qf 19 2 3,Ql 20 19,QL 21 3 4,Q 22 (.bL 3 1 [.int .i64 0,.int .i64 0,.int .i64 0] [(0,.t 21)]),Q 23 (.app 3 24 (.t 20) (.t 22)),Qf 24 2 3,Qs 1 24 23] [0,2,3,11] [0,2,3,23]))))
 (.aj [Q 25 (.bin .add (.t 11) (kI 1)),Qm 11 25] [0,2,3,11] [0,2,3,23])))
def d_.b:C:= .seq (.aj [Q 2 (.alloc [.int .i64 0,.int .i64 0,.aO 3,.str ⟨#[]⟩])] [0,2] [0,2,23])
 (.seq (.aj [Qm 5 0,Q 6 (.call 152 [.t 5] [0] []),Q 7 (.build [.int .i64 0,.int .i64 0,.aO 3,.str ⟨#[]⟩] [(0,1,.t 6)]),Q 3 (.alloc [.int .i64 0,.int .i64 0,.aO 3,.str ⟨#[]⟩]),
   Qs 4 3 7] [0,2,3] [0,2,3,23])
 (.seq (.aj [Qm 8 0,Q 9 (.call 152 [.t 8] [0] []),Qf 10 1 3,Qs 1 10 9] [0,2,3] [0,2,3,23])
 (.seq (.seq (.aj [Qi 11 0] [0,2,3,11] [0,2,3,23])
 (.block 0 (.loop d_.l0)))
 (.seq (.aj [Qm 26 0,Q 27 (.call 153 [.t 26] [0] []),Qf 28 3 3,Qs 1 28 27] [2,3] [0,2,3,23])
 (.seq (.aj [QL 29 4 3,Qs 4 2 29] [2] [0,2,23])
 (.ret))))))
def d_.m:Fn:={np:=1,body:=d_.b,res:=[.cell 2 true 4]}
def d_.k(M:Nat→Option Body):Prop:=M 223=some (.code d_.m)∧bS.k M∧eH.k M∧fD.k M
def dD.l0:C:= .seq (.aj [Q 22 (.bin .lss (.t 21) (.t 20))] [0,2,3,20,21,22] [0,2,3,29,13300])
 (.seq (.cond (.t 22) (.skip) (.exit 0))
 (.seq (.block 1 (.seq (.aj [Qm 23 0,Q 24 (.call 223 [.t 23] [0] []),Q 5 (.alloc [.int .i64 0,.int .i64 0,.aO 3,.str ⟨#[]⟩]),Qs 4 5 24] [0,2,3,5,20,21] [0,2,3,5,29,13300])
 (.aj [Qf 25 5 3,Ql 26 25,QL 27 4 5,Q 28 (.bL 4 1 [.int .i64 0,.int .i64 0,.aO 3,.str ⟨#[]⟩] [(0,.t 27)]),Q 29 (.app 4 56 (.t 26) (.t 28)),Qf 30 5 3,Qs 1 30 29] [0,2,3,20,21] [0,2,3,29,13300])))
 (.aj [Q 31 (.bin .add (.t 21) (kI 1)),Qm 21 31] [0,2,3,20,21] [0,2,3,29,13300])))
def dD.b:C:= .seq (.aj [Q 2 (.alloc [.int .i64 0,.str ⟨#[]⟩,.int .i64 0,.int .i64 0,.int .i64 0,.aO 4,.aO 1])] [0,2] [0,2,29,13300])
 (.seq (.aj [Qm 6 0,Q 7 (.call 152 [.t 6] [0] []),Q 8 (.build [.int .i64 0,.str ⟨#[]⟩,.int .i64 0,.int .i64 0,.int .i64 0,.aO 4,.aO 1] [(0,1,.t 7)]),
   Q 3 (.alloc [.int .i64 0,.str ⟨#[]⟩,.int .i64 0,.int .i64 0,.int .i64 0,.aO 4,.aO 1]),Qs 7 3 8] [0,2,3] [0,2,3,29,13300])
 (.seq (.aj [Qm 9 0,Q 10 (.call 153 [.t 9] [0] []),Qf 11 1 3,Qs 1 11 10] [0,2,3] [0,2,3,29,13300])
 (.seq (.aj [Qm 12 0,Q 13 (.call 222 [.t 12] [0] []),Qf 14 2 3,Qs 2 14 13] [0,2,3] [0,2,3,29,13300])
 (.seq (.aj [Qm 15 0,Q 16 (.call 152 [.t 15] [0] []),Qf 17 4 3,Qs 1 17 16] [0,2,3] [0,2,3,29,13300])
 (.seq (.aj [Qm 18 0,Q 19 (.call 169 [.t 18,kI 10] [0] []),Qm 4 19] [0,2,3,4] [0,2,3,29,13300])
 (.seq (.seq (.aj [Qm 20 4,Qi 21 0] [0,2,3,20,21] [0,2,3,29,13300])
 (.block 0 (.loop dD.l0)))
 (.seq (.aj [Qm 32 0,Q 33 (.call 170 [.t 32,kI 40] [0] [(0,13300)]),Qf 34 6 3,Qs 1 34 33] [2,3] [0,2,3,29,13300])
 (.seq (.aj [QL 35 7 3,Qs 7 2 35] [2] [0,2,29,13300])
 (.ret)))))))))
def dD.m:Fn:={np:=1,body:=dD.b,res:=[.cell 2 true 7]}
def dD.k(M:Nat→Option Body):Prop:=M 143=some (.code dD.m)∧bS.k M∧eH.k M∧dZ.k M∧dC.k M∧fD.k M∧d_.k M
def cq.b:C:= .seq (.aj [Qi 2 0] [0] [0])
 (.seq (.gf [Qm 7 0,Q 8 (.j1 (.t 7)),Qf 9 0 8,Ql 10 9,Qm 11 0,Q 12 (.j1 (.t 11)),Qf 13 1 12,Ql 14 13,Q 15 (.call 221 [.t 10,.t 14] [] []),Qm 6 15,Qx 16 0 6,Qx 17 1 6,Qx 18 2 6,
   Qm 3 16,Qm 4 17,Qm 5 18] [[],[0],[0,1],[0,1,2],[],[4],[4,5],[4,5,6],lr 8,lr 9,lr 10,lr 10,lr 10,lr 11,lr 12++[13],lr 15] [0,3,4,5] [0])
 (.seq (.seq (.aj [Qm 19 0,Q 20 (.j1 (.t 19)),Qf 21 2 20,Ql 22 21,Qm 23 22,Qg 24 (.mv (.t 5)) 23 false,Qg 25 (.not (.t 24)) 23 false,Q 26 (.pick (.t 23) (kB true) (.t 25))] [0,3,4,26] [0])
 (.cond (.t 26) (.seq (.aj [Qm 27 0,Q 28 (.j1 (.t 27)),Qf 29 2 28,Qn (.store 1 (.t 29) (kB true))] [] [0])
 (.seq (.aj [Qi 2 0] [2] [0])
 (.ret))) (.skip)))
 (.seq (.aj [Qm 30 0,Qm 31 4,Q 32 (.j1 (.t 30)),Qf 33 1 32,Qs 1 33 31] [3] [0])
 (.seq (.aj [Qm 34 3,Qm 2 34] [2] [0])
 (.ret)))))
def cq.m:Fn:={np:=1,body:=cq.b,res:=[.tmp 2]}
def cq.k(M:Nat→Option Body):Prop:=M 139=some (.code cq.m)∧cv.k M
def fZ.b:C:= .seq (.aj [Q 2 (.mv (.k (.str ⟨#[]⟩)))] [0] [0])
 (.seq (.gf [Qm 7 0,Q 8 (.j1 (.t 7)),Qf 9 0 8,Ql 10 9,Qm 11 0,Q 12 (.j1 (.t 11)),Qf 13 1 12,Ql 14 13,Q 15 (.call 206 [.t 10,.t 14] [] []),Qm 6 15,Qx 16 0 6,Qx 17 1 6,Qx 18 2 6,
   Qm 3 16,Qm 4 17,Qm 5 18] [[],[0],[0,1],[0,1,2],[],[4],[4,5],[4,5,6],lr 8,lr 9,lr 10,lr 10,lr 10,lr 11,lr 12++[13],lr 15] [0,3,4,5] [0])
 (.seq (.seq (.aj [Qm 19 0,Q 20 (.j1 (.t 19)),Qf 21 2 20,Ql 22 21,Qm 23 22,Qg 24 (.mv (.t 5)) 23 false,Qg 25 (.not (.t 24)) 23 false,Q 26 (.pick (.t 23) (kB true) (.t 25))] [0,3,4,26] [0])
 (.cond (.t 26) (.seq (.aj [Qm 27 0,Q 28 (.j1 (.t 27)),Qf 29 2 28,Qn (.store 1 (.t 29) (kB true))] [] [0])
 (.seq (.aj [Q 2 (.mv (.k (.str ⟨#[]⟩)))] [2] [0])
 (.ret))) (.skip)))
 (.seq (.aj [Qm 30 0,Qm 31 4,Q 32 (.j1 (.t 30)),Qf 33 1 32,Qs 1 33 31] [3] [0])
 (.seq (.aj [Qm 34 3,Qm 2 34] [2] [0])
 (.ret)))))
def fZ.m:Fn:={np:=1,body:=fZ.b,res:=[.tmp 2]}
def fZ.k(M:Nat→Option Body):Prop:=M 140=some (.code fZ.m)∧dU.k M
def ev.l0:C:= .seq (.seq (.aj [Qm 11 7,Qm 12 5,Q 13 (.bin .lss (.t 11) (.t 12)),Qm 14 13,Qg 15 (.mv (.t 7)) 14 true,Qg 16 (.mv (.t 1)) 14 true,Qg 17 (.bin .leq (.t 15) (.t 16)) 14 true,
    Q 18 (.pick (.t 14) (.t 17) (kB false)),Qm 19 18,Qg 20 (.mv (.t 0)) 19 true,Qg 21 (.j1 (.t 20)) 19 true,Qg 22 (.bK 2 (.t 21)) 19 true,
    Qg 23 (.load false 1 (.t 22)) 19 true,Qg 24 (.not (.t 23)) 19 true,Q 25 (.pick (.t 19) (.t 24) (kB false))] [0,1,5,6,7,25] [0,10,32])
 (.cond (.t 25) (.skip) (.exit 0)))
 (.seq (.block 1 (.aj [Qm 28 6,Qm 29 0,Q 30 (.call 139 [.t 29] [0] []),Q 31 (.bL 1 1 [.int .i64 0] [(0,.t 30)]),Q 32 (.app 1 8 (.t 28) (.t 31)),Qm 6 32] [0,1,5,6,7] [0,10,32]))
 (.aj [Qm 26 7,Q 27 (.bin .add (.t 26) (kI 1)),Qm 7 27] [0,1,5,6,7] [0,10,32]))
def ev.b:C:= .seq (.aj [Q 4 (.nil 1)] [0,1] [0])
 (.seq (.aj [Qm 8 0,Q 9 (.call 139 [.t 8] [0] []),Qm 5 9] [0,1,5] [0])
 (.seq (.aj [Q 10 (.bL 1 0 [.int .i64 0] []),Qm 6 10] [0,1,5,6] [0,10,32])
 (.seq (.seq (.aj [Qi 7 0] [0,1,5,6,7] [0,10,32])
 (.block 0 (.loop ev.l0)))
 (.seq (.aj [Qm 33 6,Qm 4 33] [4] [0,4,10,32])
 (.ret)))))
def ev.m:Fn:={np:=2,body:=ev.b,res:=[.tmp 4]}
def ev.k(M:Nat→Option Body):Prop:=M 142=some (.code ev.m)∧cq.k M
def dx.l0:C:= .seq (.seq (.aj [Qm 21 9,Q 22 (.bin .lss (.t 21) (kI 3))] [4,7,8,9,22] [4,8,14,40])
 (.cond (.t 22) (.skip) (.exit 0)))
 (.seq (.block 1 (.seq (.aj [Qm 25 7,Q 26 (.call 139 [.t 25] [0] []),Q 27 (.build [.int .i64 0,.int .i64 0,.int .i64 0] [(0,1,.t 26)]),Q 10 (.alloc [.int .i64 0,.int .i64 0,.int .i64 0]),Qs 3 10 27] [4,7,8,9,10] [4,8,10,14,40])
 (.seq (.aj [Qm 28 7,Q 29 (.call 139 [.t 28] [0] []),Qf 30 1 10,Qf 31 0 30,Qs 1 31 29] [4,7,8,9,10] [4,8,10,14,40])
 (.seq (.aj [Qm 32 7,Q 33 (.call 139 [.t 32] [0] []),Qf 34 1 10,Qf 35 1 34,Qs 1 35 33] [4,7,8,9,10] [4,8,10,14,40])
 (.aj [Qf 36 2 8,Ql 37 36,QL 38 3 10,Q 39 (.bL 3 1 [.int .i64 0,.int .i64 0,.int .i64 0] [(0,.t 38)]),Q 40 (.app 3 24 (.t 37) (.t 39)),Qf 41 2 8,Qs 1 41 40] [4,7,8,9] [4,8,14,40])))))
 (.aj [Qm 23 9,Q 24 (.bin .add (.t 23) (kI 1)),Qm 9 24] [4,7,8,9] [4,8,14,40]))
def dx.b:C:= .seq (.aj [Q 4 (.alloc [.int .i64 0,.int .i64 0,.aO 3,.str ⟨#[]⟩]),Qi 5 0,Qb 6 false] [0,1,4] [4,40])
 (.seq (.aj [Qm 11 0,Qm 12 1,Q 13 (.build [.str ⟨#[]⟩,.int .i64 0,.bool false] [(0,1,.t 11),(1,1,.t 12)]),Qv 14 13,Qm 7 14] [4,7] [4,14,40])
 (.seq (.aj [Qm 15 7,Q 16 (.call 139 [.t 15] [0] []),Q 17 (.build [.int .i64 0,.int .i64 0,.aO 3,.str ⟨#[]⟩] [(0,1,.t 16)]),
   Q 8 (.alloc [.int .i64 0,.int .i64 0,.aO 3,.str ⟨#[]⟩]),Qs 4 8 17] [4,7,8] [4,8,14,40])
 (.seq (.aj [Qm 18 7,Q 19 (.call 139 [.t 18] [0] []),Qf 20 1 8,Qs 1 20 19] [4,7,8] [4,8,14,40])
 (.seq (.seq (.aj [Qi 9 0] [4,7,8,9] [4,8,14,40])
 (.block 0 (.loop dx.l0)))
 (.seq (.aj [Qm 42 7,Q 43 (.call 140 [.t 42] [0] []),Qf 44 3 8,Qs 1 44 43] [4,7,8] [4,8,14,40])
 (.seq (.seq (.aj [Qm 45 7,Q 46 (.j1 (.t 45)),Qf 47 2 46,Ql 48 47,Qm 49 48,Qg 50 (.load true 4 (.t 8)) 49 false,Qg 51 (.call 187 [.t 50] [] []) 49 false,Qg 52 (.not (.t 51)) 49 false,
   Q 53 (.pick (.t 49) (kB true) (.t 52))] [4,7,8,53] [4,8,14,40])
 (.cond (.t 53) (.seq (.aj [Q 54 (.build [.int .i64 0,.int .i64 0,.aO 3,.str ⟨#[]⟩] []),Qs 4 4 54,Qi 5 0,Qb 6 false] [4,5,6] [4,40])
 (.ret)) (.skip)))
 (.seq (.gf [QL 55 4 8,Qm 56 7,Q 57 (.j1 (.t 56)),Qf 58 1 57,Ql 59 58,Qs 4 4 55,Qm 5 59,Qb 6 true] [[],[],[1],[1,2],[1,2,3],[0],lr 6,lr 7] [4,5,6] [4,40])
 (.ret))))))))
def dx.m:Fn:={np:=2,body:=dx.b,res:=[.cell 4 true 4,.tmp 5,.tmp 6]}
def dx.k(M:Nat→Option Body):Prop:=M 141=some (.code dx.m)∧cq.k M∧fZ.k M∧dX.k M
def bR.l0:C:= .seq (.seq (.aj [Qm 37 10,Qm 38 9,Q 39 (.bin .lss (.t 37) (.t 38)),Qm 40 39,Qg 41 (.mv (.t 10)) 40 true,Qg 42 (.bin .leq (.t 41) (kI 10)) 40 true,Q 43 (.pick (.t 40) (.t 42) (kB false)),
    Qm 44 43,Qg 45 (.mv (.t 7)) 44 true,Qg 46 (.j1 (.t 45)) 44 true,Qg 47 (.bK 2 (.t 46)) 44 true,Qg 48 (.load false 1 (.t 47)) 44 true,Qg 49 (.not (.t 48)) 44 true,
    Q 50 (.pick (.t 44) (.t 49) (kB false))] [0,4,7,8,9,10,50] [4,8,17,70,17700])
 (.cond (.t 50) (.skip) (.exit 0)))
 (.seq (.block 1 (.seq (.aj [Qm 54 0,Qm 55 7,Q 56 (.j1 (.t 55)),Qf 57 1 56,Ql 58 57,Q 59 (.call 141 [.t 54,.t 58] [] []),Qm 53 59,Qx 60 0 53,Qx 61 1 53,Qx 62 2 53,
   Q 11 (.alloc [.int .i64 0,.int .i64 0,.aO 3,.str ⟨#[]⟩]),Qs 4 11 60,Qm 12 61,Qm 13 62] [0,4,7,8,9,10,11,12,13] [4,8,11,17,70,17700])
 (.seq (.seq (.aj [Qm 63 13,Q 64 (.not (.t 63))] [0,4,7,8,9,10,11,12,64] [4,8,11,17,70,17700])
 (.cond (.t 64) (.seq (.aj [Q 65 (.build [.int .i64 0,.str ⟨#[]⟩,.int .i64 0,.int .i64 0,.int .i64 0,.aO 4,.aO 1] []),Qs 7 4 65,Qi 5 0,Qb 6 false] [4,5,6] [4,70,17700])
 (.ret)) (.skip)))
 (.seq (.aj [Qf 66 5 8,Ql 67 66,QL 68 4 11,Q 69 (.bL 4 1 [.int .i64 0,.int .i64 0,.aO 3,.str ⟨#[]⟩] [(0,.t 68)]),Q 70 (.app 4 56 (.t 67) (.t 69)),Qf 71 5 8,Qs 1 71 70] [0,4,7,8,9,10,12] [4,8,17,70,17700])
 (.aj [Qm 72 7,Qm 73 12,Q 74 (.j1 (.t 72)),Qf 75 1 74,Qs 1 75 73] [0,4,7,8,9,10] [4,8,17,70,17700])))))
 (.aj [Qm 51 10,Q 52 (.bin .add (.t 51) (kI 1)),Qm 10 52] [0,4,7,8,9,10] [4,8,17,70,17700]))
def bR.b:C:= .seq (.aj [Q 4 (.alloc [.int .i64 0,.str ⟨#[]⟩,.int .i64 0,.int .i64 0,.int .i64 0,.aO 4,.aO 1]),Qi 5 0,Qb 6 false] [0,1,4] [4,70,17700])
 (.seq (.aj [Qm 14 0,Qm 15 1,Q 16 (.build [.str ⟨#[]⟩,.int .i64 0,.bool false] [(0,1,.t 14),(1,1,.t 15)]),Qv 17 16,Qm 7 17] [0,4,7] [4,17,70,17700])
 (.seq (.aj [Qm 18 7,Q 19 (.call 139 [.t 18] [0] []),Q 20 (.build [.int .i64 0,.str ⟨#[]⟩,.int .i64 0,.int .i64 0,.int .i64 0,.aO 4,.aO 1] [(0,1,.t 19)]),
   Q 8 (.alloc [.int .i64 0,.str ⟨#[]⟩,.int .i64 0,.int .i64 0,.int .i64 0,.aO 4,.aO 1]),Qs 7 8 20] [0,4,7,8] [4,8,17,70,17700])
 (.seq (.aj [Qm 21 7,Q 22 (.call 140 [.t 21] [0] []),Qf 23 1 8,Qs 1 23 22] [0,4,7,8] [4,8,17,70,17700])
 (.seq (.aj [Qm 24 7,Q 25 (.call 139 [.t 24] [0] []),Qf 26 2 8,Qf 27 0 26,Qs 1 27 25] [0,4,7,8] [4,8,17,70,17700])
 (.seq (.aj [Qm 28 7,Q 29 (.call 139 [.t 28] [0] []),Qf 30 2 8,Qf 31 1 30,Qs 1 31 29] [0,4,7,8] [4,8,17,70,17700])
 (.seq (.aj [Qm 32 7,Q 33 (.call 139 [.t 32] [0] []),Qf 34 4 8,Qs 1 34 33] [0,4,7,8] [4,8,17,70,17700])
 (.seq (.aj [Qm 35 7,Q 36 (.call 139 [.t 35] [0] []),Qm 9 36] [0,4,7,8,9] [4,8,17,70,17700])
 (.seq (.seq (.aj [Qi 10 0] [0,4,7,8,9,10] [4,8,17,70,17700])
 (.block 0 (.loop bR.l0)))
 (.seq (.aj [Qm 76 7,Q 77 (.call 142 [.t 76,kI 40] [0] [(0,17700)]),Qf 78 6 8,Qs 1 78 77] [4,7,8] [4,8,17,70,17700])
 (.seq (.seq (.aj [Qm 79 7,Q 80 (.j1 (.t 79)),Qf 81 2 80,Ql 82 81,Qm 83 82,Qg 84 (.load true 7 (.t 8)) 83 false,Qg 85 (.call 88 [.t 84] [] []) 83 false,Qg 86 (.not (.t 85)) 83 false,
   Q 87 (.pick (.t 83) (kB true) (.t 86))] [4,7,8,87] [4,8,17,70,17700])
 (.cond (.t 87) (.seq (.aj [Q 88 (.build [.int .i64 0,.str ⟨#[]⟩,.int .i64 0,.int .i64 0,.int .i64 0,.aO 4,.aO 1] []),Qs 7 4 88,Qi 5 0,Qb 6 false] [4,5,6] [4,70,17700])
 (.ret)) (.skip)))
 (.seq (.gf [QL 89 7 8,Qm 90 7,Q 91 (.j1 (.t 90)),Qf 92 1 91,Ql 93 92,Qs 7 4 89,Qm 5 93,Qb 6 true] [[],[],[1],[1,2],[1,2,3],[0],lr 6,lr 7] [4,5,6] [4,70,17700])
 (.ret))))))))))))
def bR.m:Fn:={np:=2,body:=bR.b,res:=[.cell 4 true 7,.tmp 5,.tmp 6]}
def bR.k(M:Nat→Option Body):Prop:=M 52=some (.code bR.m)∧bD.k M∧cq.k M∧fZ.k M∧dx.k M∧ev.k M
def ch.l0:C:= .seq (.seq (.aj [Qm 24 5,Qf 25 2 1,Ql 26 25,Q 27 (.len (.t 26)),Q 28 (.bin .lss (.t 24) (.t 27))] [1,4,5,28] [1])
 (.cond (.t 28) (.skip) (.exit 0)))
 (.seq (.block 1 (.seq (.aj [Qf 32 2 1,Ql 33 32,Qm 34 5,Qa 35 7 33 34,QL 36 7 35,Q 37 (.call 34 [.t 36] [] []),Qm 31 37,Qx 38 0 31,Qx 39 1 31,Qm 6 38,Qm 7 39] [1,4,5,6] [1])
 (.aj [Qm 40 4,Qm 41 6,Q 42 (.bin .add (.t 40) (.t 41)),Qm 4 42] [1,4,5] [1])))
 (.aj [Qm 29 5,Q 30 (.bin .add (.t 29) (kI 1)),Qm 5 30] [1,4,5] [1]))
def ch.l1:C:= .seq (.seq (.aj [Qm 49 8,Qf 50 3 1,Ql 51 50,Q 52 (.len (.t 51)),Q 53 (.bin .lss (.t 49) (.t 52))] [1,4,8,53] [1])
 (.cond (.t 53) (.skip) (.exit 2)))
 (.seq (.block 3 (.aj [Qm 56 4,Qf 57 3 1,Ql 58 57,Qm 59 8,Qa 60 1 58 59,Ql 61 60,Q 62 (.call 99 [.t 61] [] []),Q 63 (.bin .add (.t 56) (.t 62)),Qm 4 63] [1,4,8] [1]))
 (.aj [Qm 54 8,Q 55 (.bin .add (.t 54) (kI 1)),Qm 8 55] [1,4,8] [1]))
def ch.b:C:= .seq (.aj [Qv 1 0,Q 2 (.mv (.k (.str ⟨#[]⟩))),Qb 3 false] [1] [1])
 (.seq (.seq (.aj [QL 9 4 1,Q 10 (.call 149 [.t 9] [] []),Q 11 (.not (.t 10))] [1,11] [1])
 (.cond (.t 11) (.seq (.aj [Q 2 (.mv (.k (.str ⟨#[]⟩))),Qb 3 false] [2,3] [])
 (.ret)) (.skip)))
 (.seq (.gf [Qf 12 0 1,Ql 13 12,Q 14 (.call 99 [.t 13] [] []),Qf 15 1 1,Ql 16 15,Q 17 (.call 99 [.t 16] [] []),Q 18 (.bin .add (.t 14) (.t 17)),Qf 19 2 1,Ql 20 19,Q 21 (.len (.t 20)),
   Q 22 (.call 99 [.t 21] [] []),Q 23 (.bin .add (.t 18) (.t 22)),Qm 4 23] [[],[0],[0,1],[],[3],lr 5,lr 6,[],[7],[7,8],lr 6++[7,8,9],lr 11,lr 12] [1,4] [1])
 (.seq (.seq (.aj [Qi 5 0] [1,4,5] [1])
 (.block 0 (.loop ch.l0)))
 (.seq (.aj [Qm 43 4,Qf 44 3 1,Ql 45 44,Q 46 (.len (.t 45)),Q 47 (.call 99 [.t 46] [] []),Q 48 (.bin .add (.t 43) (.t 47)),Qm 4 48] [1,4] [1])
 (.seq (.seq (.aj [Qi 8 0] [1,4,8] [1])
 (.block 2 (.loop ch.l1)))
 (.seq (.aj [Qm 64 4,Q 65 (.call 100 [.t 64] [] []),Qx 66 0 65,Qx 67 1 65,Qm 2 66,Qm 3 67] [2,3] [])
 (.ret)))))))
def ch.m:Fn:={np:=1,body:=ch.b,res:=[.tmp 2,.tmp 3]}
def ch.k(M:Nat→Option Body):Prop:=M 60=some (.code ch.m)∧dp.k M∧bG.k M∧iQ.k M∧aN.k M
def bo.l0:C:= .seq (.seq (.aj [Qm 33 9,Qm 34 8,Q 35 (.bin .lss (.t 33) (.t 34)),Qm 36 35,Qg 37 (.mv (.t 9)) 36 true,Qg 38 (.bin .leq (.t 37) (kI 5)) 36 true,Q 39 (.pick (.t 36) (.t 38) (kB false)),
    Qm 40 39,Qg 41 (.mv (.t 6)) 40 true,Qg 42 (.j1 (.t 41)) 40 true,Qg 43 (.bK 2 (.t 42)) 40 true,Qg 44 (.load false 1 (.t 43)) 40 true,Qg 45 (.not (.t 44)) 40 true,
    Q 46 (.pick (.t 40) (.t 45) (kB false))] [0,2,4,6,7,8,9,46] [2,7,24,66,17300])
 (.cond (.t 46) (.skip) (.exit 0)))
 (.seq (.block 1 (.seq (.aj [Qm 50 4,Qm 51 6,Q 52 (.j1 (.t 51)),Qf 53 1 52,Ql 54 53,Q 55 (.call 52 [.t 50,.t 54] [] []),Qm 49 55,Qx 56 0 49,Qx 57 1 49,Qx 58 2 49,
   Q 10 (.alloc [.int .i64 0,.str ⟨#[]⟩,.int .i64 0,.int .i64 0,.int .i64 0,.aO 4,.aO 1]),Qs 7 10 56,Qm 11 57,Qm 12 58] [0,2,4,6,7,8,9,10,11,12] [2,7,10,24,66,17300])
 (.seq (.seq (.aj [Qm 59 12,Q 60 (.not (.t 59))] [0,2,4,6,7,8,9,10,11,60] [2,7,10,24,66,17300])
 (.cond (.t 60) (.seq (.aj [Q 61 (.build [.int .i64 0,.int .i64 0,.aO 7,.aO 1] []),Qs 4 2 61,Qb 3 false] [2,3] [2,66,17300])
 (.ret)) (.skip)))
 (.seq (.aj [Qf 62 2 7,Ql 63 62,QL 64 7 10,Q 65 (.bL 7 1 [.int .i64 0,.str ⟨#[]⟩,.int .i64 0,.int .i64 0,.int .i64 0,.aO 4,.aO 1] [(0,.t 64)]),
   Q 66 (.app 7 96 (.t 63) (.t 65)),Qf 67 2 7,Qs 1 67 66] [0,2,4,6,7,8,9,11] [2,7,24,66,17300])
 (.aj [Qm 68 6,Qm 69 11,Q 70 (.j1 (.t 68)),Qf 71 1 70,Qs 1 71 69] [0,2,4,6,7,8,9] [2,7,24,66,17300])))))
 (.aj [Qm 47 9,Q 48 (.bin .add (.t 47) (kI 1)),Qm 9 48] [0,2,4,6,7,8,9] [2,7,24,66,17300]))
def bo.b:C:= .seq (.aj [Q 2 (.alloc [.int .i64 0,.int .i64 0,.aO 7,.aO 1]),Qb 3 false] [0,2] [2,66,17300])
 (.seq (.aj [Qm 16 0,Q 17 (.call 167 [.t 16] [] []),Qm 15 17,Qx 18 0 15,Qx 19 1 15,Qm 4 18,Qm 5 19] [0,2,4,5] [2,66,17300])
 (.seq (.aj [Qm 20 4,Qm 21 5,Q 22 (.not (.t 21)),Q 23 (.build [.str ⟨#[]⟩,.int .i64 0,.bool false] [(0,1,.t 20),(2,1,.t 22)]),Qv 24 23,Qm 6 24] [0,2,4,6] [2,24,66,17300])
 (.seq (.aj [Qm 25 6,Q 26 (.call 139 [.t 25] [0] []),Q 27 (.build [.int .i64 0,.int .i64 0,.aO 7,.aO 1] [(0,1,.t 26)]),Q 7 (.alloc [.int .i64 0,.int .i64 0,.aO 7,.aO 1]),
   Qs 4 7 27] [0,2,4,6,7] [2,7,24,66,17300])
 (.seq (.aj [Qm 28 6,Q 29 (.call 139 [.t 28] [0] []),Qf 30 1 7,Qs 1 30 29] [0,2,4,6,7] [2,7,24,66,17300])
 (.seq (.aj [Qm 31 6,Q 32 (.call 139 [.t 31] [0] []),Qm 8 32] [0,2,4,6,7,8] [2,7,24,66,17300])
 (.seq (.seq (.aj [Qi 9 0] [0,2,4,6,7,8,9] [2,7,24,66,17300])
 (.block 0 (.loop bo.l0)))
 (.seq (.aj [Qm 72 6,Q 73 (.call 142 [.t 72,kI 20] [0] [(0,17300)]),Qf 74 3 7,Qs 1 74 73] [0,2,6,7] [2,7,24,66,17300])
 (.seq (.aj [QL 76 4 7,Q 77 (.call 60 [.t 76] [] []),Qm 75 77,Qx 78 0 75,Qx 79 1 75,Qm 13 78,Qm 14 79] [0,2,6,7,13,14] [2,7,24,66,17300])
 (.seq (.seq (.aj [Qm 80 6,Q 81 (.j1 (.t 80)),Qf 82 2 81,Ql 83 82,Qm 84 83,Qg 85 (.mv (.t 14)) 84 false,Qg 86 (.not (.t 85)) 84 false,Q 87 (.pick (.t 84) (kB true) (.t 86)),Qm 88 87,
   Qg 89 (.mv (.t 13)) 88 false,Qg 90 (.mv (.t 0)) 88 false,Qg 91 (.bin .neq (.t 89) (.t 90)) 88 false,Q 92 (.pick (.t 88) (kB true) (.t 91))] [2,7,92] [2,7,66,17300])
 (.cond (.t 92) (.seq (.aj [Q 93 (.build [.int .i64 0,.int .i64 0,.aO 7,.aO 1] []),Qs 4 2 93,Qb 3 false] [2,3] [2,66,17300])
 (.ret)) (.skip)))
 (.seq (.aj [QL 94 4 7,Qs 4 2 94,Qb 3 true] [2,3] [2,66,17300])
 (.ret)))))))))))
def bo.m:Fn:={np:=1,body:=bo.b,res:=[.cell 2 true 4,.tmp 3]}
def bo.k(M:Nat→Option Body):Prop:=M 75=some (.code bo.m)∧bR.k M∧ch.k M∧cq.k M∧ev.k M∧fg.k M
def bH.l0:C:= .seq (.aj [Q 28 (.bin .lss (.t 27) (.t 26))] [2,4,5,6,7,26,27,28] [2,7,17,35,13900])
 (.seq (.cond (.t 28) (.skip) (.exit 0))
 (.seq (.block 1 (.seq (.aj [Qm 29 6,Q 30 (.call 143 [.t 29] [0] []),Q 9 (.alloc [.int .i64 0,.str ⟨#[]⟩,.int .i64 0,.int .i64 0,.int .i64 0,.aO 4,.aO 1]),Qs 7 9 30] [2,4,5,6,7,9,26,27] [2,7,9,17,35,13900])
 (.aj [Qf 31 2 7,Ql 32 31,QL 33 7 9,Q 34 (.bL 7 1 [.int .i64 0,.str ⟨#[]⟩,.int .i64 0,.int .i64 0,.int .i64 0,.aO 4,.aO 1] [(0,.t 33)]),Q 35 (.app 7 96 (.t 32) (.t 34)),
   Qf 36 2 7,Qs 1 36 35] [2,4,5,6,7,26,27] [2,7,17,35,13900])))
 (.aj [Q 37 (.bin .add (.t 27) (kI 1)),Qm 27 37] [2,4,5,6,7,26,27] [2,7,17,35,13900])))
def bH.b:C:= .seq (.aj [Q 2 (.alloc [.int .i64 0,.int .i64 0,.aO 7,.aO 1]),Qb 3 false] [0,2] [2,35,13900])
 (.seq (.aj [Qm 11 0,Q 12 (.call 168 [.t 11] [] []),Qm 10 12,Qx 13 0 10,Qx 14 1 10,Qm 4 13,Qm 5 14] [2,4,5] [2,35,13900])
 (.seq (.aj [Qm 15 4,Q 16 (.build [.str ⟨#[]⟩,.int .i64 0,.bool false] [(0,1,.t 15)]),Qv 17 16,Qm 6 17] [2,4,5,6] [2,17,35,13900])
 (.seq (.aj [Qm 18 6,Q 19 (.call 152 [.t 18] [0] []),Q 20 (.build [.int .i64 0,.int .i64 0,.aO 7,.aO 1] [(0,1,.t 19)]),Q 7 (.alloc [.int .i64 0,.int .i64 0,.aO 7,.aO 1]),
   Qs 4 7 20] [2,4,5,6,7] [2,7,17,35,13900])
 (.seq (.aj [Qm 21 6,Q 22 (.call 152 [.t 21] [0] []),Qf 23 1 7,Qs 1 23 22] [2,4,5,6,7] [2,7,17,35,13900])
 (.seq (.aj [Qm 24 6,Q 25 (.call 169 [.t 24,kI 5] [0] []),Qm 8 25] [2,4,5,6,7,8] [2,7,17,35,13900])
 (.seq (.seq (.aj [Qm 26 8,Qi 27 0] [2,4,5,6,7,26,27] [2,7,17,35,13900])
 (.block 0 (.loop bH.l0)))
 (.seq (.aj [Qm 38 6,Q 39 (.call 170 [.t 38,kI 20] [0] [(0,13900)]),Qf 40 3 7,Qs 1 40 39] [2,4,5,6,7] [2,7,17,35,13900])
 (.seq (.seq (.aj [Qm 41 5,Q 42 (.not (.t 41)),Qm 43 42,Qg 44 (.mv (.t 6)) 43 false,Qg 45 (.j1 (.t 44)) 43 false,Qg 46 (.bK 2 (.t 45)) 43 false,Qg 47 (.load false 1 (.t 46)) 43 false,
   Q 48 (.pick (.t 43) (kB true) (.t 47)),Qm 49 48,Qg 50 (.mv (.t 6)) 49 false,Qg 51 (.j1 (.t 50)) 49 false,Qg 52 (.bK 1 (.t 51)) 49 false,
   Qg 53 (.load false 1 (.t 52)) 49 false,Qg 54 (.mv (.t 4)) 49 false,Qg 55 (.lu (.t 54)) 49 false,Qg 56 (.bin .neq (.t 53) (.t 55)) 49 false,
   Q 57 (.pick (.t 49) (kB true) (.t 56)),Qm 58 57,Qg 59 (.load true 4 (.t 7)) 58 false,Qg 60 (.call 150 [.t 59] [] []) 58 false,Qg 61 (.not (.t 60)) 58 false,
   Q 62 (.pick (.t 58) (kB true) (.t 61))] [2,7,62] [2,7,35,13900])
 (.cond (.t 62) (.seq (.aj [Q 63 (.build [.int .i64 0,.int .i64 0,.aO 7,.aO 1] []),Qs 4 2 63,Qb 3 false] [2,3] [2,35,13900])
 (.ret)) (.skip)))
 (.seq (.aj [QL 64 4 7,Qs 4 2 64,Qb 3 true] [2,3] [2,35,13900])
 (.ret))))))))))
def bH.m:Fn:={np:=1,body:=bH.b,res:=[.cell 2 true 4,.tmp 3]}
def bH.k(M:Nat→Option Body):Prop:=M 76=some (.code bH.m)∧dD.k M∧aQ.k M∧bS.k M∧f_.k M∧dZ.k M∧dC.k M
def fo.b:C:= .seq (.aj [Qv 1 0,Qb 2 false] [1] [1])
 (.seq (.seq (.aj [Qf 5 0 1,Ql 6 5] [1,6] [1])
 (.block 0 (.seq (.seq (.aj [Q 8 (.bin .eql (.t 6) (kI 1)),Qm 7 8] [1,6,7] [1])
 (.cond (.t 7) (.skip) (.aj [Q 9 (.bin .eql (.t 6) (kI 2)),Qm 7 9] [1,6,7] [1])))
 (.cond (.t 7) (.seq (.aj [Qf 10 4 1,Ql 11 10,Q 12 (.call 90 [.t 11] [] []),Qm 2 12] [2] [])
 (.ret)) (.seq (.aj [Q 14 (.bin .eql (.t 6) (kI 4)),Qm 13 14] [1,6,13] [1])
 (.cond (.t 13) (.seq (.aj [Qf 15 4 1,Ql 16 15,Q 17 (.lu (.t 16)),Q 18 (.bin .leq (.t 17) (kI 60)),Qm 2 18] [2] [])
 (.ret)) (.seq (.aj [Q 20 (.bin .eql (.t 6) (kI 7)),Qm 19 20] [1,19] [1])
 (.cond (.t 19) (.seq (.aj [Qf 22 4 1,Ql 23 22,Q 24 (.call 75 [.t 23] [] []),Qm 21 24,Qx 25 0 21,Qx 26 1 21,Q 3 (.alloc [.int .i64 0,.int .i64 0,.aO 7,.aO 1]),Qs 4 3 25,Qm 4 26] [4] [])
 (.seq (.aj [Qm 27 4,Qm 2 27] [2] [])
 (.ret))) (.skip)))))))))
 (.seq (.aj [Qf 28 4 1,Ql 29 28,Q 30 (.bin .eql (.t 29) (.k (.str ⟨#[]⟩))),Qm 2 30] [2] [])
 (.ret)))
def fo.m:Fn:={np:=1,body:=fo.b,res:=[.tmp 2]}
def fo.k(M:Nat→Option Body):Prop:=M 146=some (.code fo.m)∧bo.k M∧dW.k M
def aX.b:C:= .seq (.aj [Qv 1 0,Qb 2 false] [1] [1])
 (.seq (.seq (.aj [Qf 6 0 1,Ql 7 6,Q 8 (.call 98 [.t 7,kI 1,kI 7] [] []),Q 9 (.not (.t 8))] [1,9] [1])
 (.cond (.t 9) (.seq (.aj [Qb 2 false] [2] [])
 (.ret)) (.skip)))
 (.seq (.aj [Qf 10 0 1,Ql 11 10,Q 12 (.bin .eql (.t 11) (kI 7)),Qm 3 12] [1,3] [1])
 (.seq (.aj [Qf 13 0 1,Ql 14 13,Q 15 (.bin .eql (.t 14) (kI 4)),Qm 16 15,Qg 17 (.bK 0 (.t 1)) 16 false,Qg 18 (.load false 1 (.t 17)) 16 false,Qg 19 (.bin .eql (.t 18) (kI 5)) 16 false,
   Q 20 (.pick (.t 16) (kB true) (.t 19)),Qm 21 20,Qg 22 (.bK 0 (.t 1)) 21 false,Qg 23 (.load false 1 (.t 22)) 21 false,Qg 24 (.bin .eql (.t 23) (kI 6)) 21 false,
   Q 25 (.pick (.t 21) (kB true) (.t 24)),Qm 4 25] [1,3,4] [1])
 (.seq (.aj [Qf 26 0 1,Ql 27 26,Q 28 (.bin .eql (.t 27) (kI 4)),Qm 29 28,Qg 30 (.bK 0 (.t 1)) 29 false,Qg 31 (.load false 1 (.t 30)) 29 false,Qg 32 (.bin .eql (.t 31) (kI 5)) 29 false,
   Q 33 (.pick (.t 29) (kB true) (.t 32)),Qm 5 33] [1,3,4,5] [1])
 (.seq (.seq (.aj [Qm 34 3,Qm 35 34,Qg 36 (.bK 1 (.t 1)) 35 true,Qg 37 (.load false 1 (.t 36)) 35 true,Qg 38 (.bin .neq (.t 37) (kI 0)) 35 true,Q 39 (.pick (.t 35) (.t 38) (kB false)),
   Qm 40 39,Qg 41 (.mv (.t 3)) 40 false,Qg 42 (.not (.t 41)) 40 false,Qg 43 (.mv (.t 42)) 40 false,Qg 44 (.bK 1 (.t 1)) 43 true,Qg 45 (.load false 1 (.t 44)) 43 true,
   Qg 46 (.call 98 [.t 45,kI 1,kI 9999] [] []) 43 true,Qg 47 (.not (.t 46)) 43 true,Qg 48 (.pick (.t 43) (.t 47) (kB false)) 40 false,Q 49 (.pick (.t 40) (kB true) (.t 48)),
   Qm 50 49,Qg 51 (.mv (.t 4)) 50 false,Qg 52 (.mv (.t 51)) 50 false,Qg 53 (.bK 2 (.t 1)) 52 true,Qg 54 (.load false 1 (.t 53)) 52 true,
   Qg 55 (.call 98 [.t 54,kI 1,kI 9999] [] []) 52 true,Qg 56 (.not (.t 55)) 52 true,Qg 57 (.pick (.t 52) (.t 56) (kB false)) 50 false,Q 58 (.pick (.t 50) (kB true) (.t 57)),
   Qm 59 58,Qg 60 (.mv (.t 4)) 59 false,Qg 61 (.not (.t 60)) 59 false,Qg 62 (.mv (.t 61)) 59 false,Qg 63 (.bK 2 (.t 1)) 62 true,Qg 64 (.load false 1 (.t 63)) 62 true,
   Qg 65 (.bin .neq (.t 64) (kI 0)) 62 true,Qg 66 (.pick (.t 62) (.t 65) (kB false)) 59 false,Q 67 (.pick (.t 59) (kB true) (.t 66))] [1,5,67] [1])
 (.cond (.t 67) (.seq (.aj [Qb 2 false] [2] [])
 (.ret)) (.skip)))
 (.seq (.seq (.aj [Qm 68 5,Qm 69 68,Qg 70 (.bK 3 (.t 1)) 69 true,Qg 71 (.load false 1 (.t 70)) 69 true,Qg 72 (.call 98 [.t 71,kI 0,kI 7] [] []) 69 true,Qg 73 (.not (.t 72)) 69 true,
   Q 74 (.pick (.t 69) (.t 73) (kB false)),Qm 75 74,Qg 76 (.mv (.t 5)) 75 false,Qg 77 (.not (.t 76)) 75 false,Qg 78 (.mv (.t 77)) 75 false,Qg 79 (.bK 3 (.t 1)) 78 true,
   Qg 80 (.load false 1 (.t 79)) 78 true,Qg 81 (.bin .neq (.t 80) (kI 0)) 78 true,Qg 82 (.pick (.t 78) (.t 81) (kB false)) 75 false,Q 83 (.pick (.t 75) (kB true) (.t 82))] [1,83] [1])
 (.cond (.t 83) (.seq (.aj [Qb 2 false] [2] [])
 (.ret)) (.skip)))
 (.seq (.aj [QL 84 5 1,Q 85 (.call 146 [.t 84] [] []),Qm 2 85] [2] [])
 (.ret))))))))
def aX.m:Fn:={np:=1,body:=aX.b,res:=[.tmp 2]}
def aX.k(M:Nat→Option Body):Prop:=M 58=some (.code aX.m)∧bY.k M∧fo.k M
def aP.b:C:= .seq (.aj [Qv 1 0,Qb 2 false] [1] [1])
 (.seq (.aj [Qf 7 0 1,Ql 8 7,Qf 9 1 1,Ql 10 9,Q 11 (.build [.int .i64 0,.int .i64 0,.int .i64 0,.int .i64 0,.str ⟨#[]⟩] [(0,1,.t 8),(1,1,.t 10)]),
   Q 3 (.alloc [.int .i64 0,.int .i64 0,.int .i64 0,.int .i64 0,.str ⟨#[]⟩]),Qs 5 3 11] [1,3] [1,3])
 (.seq (.aj [Qf 12 1 1,Ql 13 12,Q 14 (.call 147 [.t 13] [] []),Qm 4 14] [1,3,4] [1,3])
 (.seq (.seq (.aj [Qf 15 0 1,Ql 16 15] [1,3,4,16] [1,3])
 (.block 0 (.seq (.seq (.aj [Q 18 (.bin .eql (.t 16) (kI 1)),Qm 17 18] [1,3,4,16,17] [1,3])
 (.cond (.t 17) (.skip) (.aj [Q 19 (.bin .eql (.t 16) (kI 2)),Qm 17 19] [1,3,4,16,17] [1,3])))
 (.cond (.t 17) (.seq (.aj [Qf 20 4 1,Ql 21 20,Qf 22 4 3,Qs 1 22 21] [1,3,4] [1,3])
 (.seq (.aj [Qm 23 4,Qm 24 23,Qg 25 (.load true 5 (.t 1)) 24 true,Qg 26 (.load true 5 (.t 3)) 24 true,Qg 27 (.eqs false [.int,.int,.int,.int,.str] (.t 25) (.t 26)) 24 true,
   Q 28 (.pick (.t 24) (.t 27) (kB false)),Qm 29 28,Qg 30 (.bK 4 (.t 1)) 29 true,Qg 31 (.load false 1 (.t 30)) 29 true,Qg 32 (.call 89 [.t 31] [] []) 29 true,
   Q 33 (.pick (.t 29) (.t 32) (kB false)),Qm 2 33] [2] [])
 (.ret))) (.seq (.aj [Q 35 (.bin .eql (.t 16) (kI 3)),Qm 34 35] [1,3,4,16,34] [1,3])
 (.cond (.t 34) (.seq (.aj [Qm 36 4,Qm 37 36,Qg 38 (.load true 5 (.t 1)) 37 true,Qg 39 (.load true 5 (.t 3)) 37 true,Qg 40 (.eqs false [.int,.int,.int,.int,.str] (.t 38) (.t 39)) 37 true,
   Q 41 (.pick (.t 37) (.t 40) (kB false)),Qm 2 41] [2] [])
 (.ret)) (.seq (.aj [Q 43 (.bin .eql (.t 16) (kI 4)),Qm 42 43] [1,3,4,16,42] [1,3])
 (.cond (.t 42) (.seq (.aj [Qm 44 4,Qm 45 44,Qg 46 (.bK 2 (.t 1)) 45 true,Qg 47 (.load false 1 (.t 46)) 45 true,Qg 48 (.call 147 [.t 47] [] []) 45 true,Q 49 (.pick (.t 45) (.t 48) (kB false)),
   Qm 50 49,Qg 51 (.bK 3 (.t 1)) 50 true,Qg 52 (.load false 1 (.t 51)) 50 true,Qg 53 (.call 148 [.t 52] [] []) 50 true,Q 54 (.pick (.t 50) (.t 53) (kB false)),Qm 55 54,
   Qg 56 (.bK 4 (.t 1)) 55 true,Qg 57 (.load false 1 (.t 56)) 55 true,Qg 58 (.lu (.t 57)) 55 true,Qg 59 (.bin .leq (.t 58) (kI 60)) 55 true,
   Q 60 (.pick (.t 55) (.t 59) (kB false)),Qm 2 60] [2] [])
 (.ret)) (.seq (.aj [Q 62 (.bin .eql (.t 16) (kI 5)),Qm 61 62] [1,3,4,16,61] [1,3])
 (.cond (.t 61) (.seq (.aj [Qf 63 2 1,Ql 64 63,Qf 65 2 3,Qs 1 65 64] [1,3,4] [1,3])
 (.seq (.aj [Qf 66 3 1,Ql 67 66,Qf 68 3 3,Qs 1 68 67] [1,3,4] [1,3])
 (.seq (.aj [Qm 69 4,Qm 70 69,Qg 71 (.load true 5 (.t 1)) 70 true,Qg 72 (.load true 5 (.t 3)) 70 true,Qg 73 (.eqs false [.int,.int,.int,.int,.str] (.t 71) (.t 72)) 70 true,
   Q 74 (.pick (.t 70) (.t 73) (kB false)),Qm 75 74,Qg 76 (.bK 2 (.t 1)) 75 true,Qg 77 (.load false 1 (.t 76)) 75 true,Qg 78 (.call 147 [.t 77] [] []) 75 true,
   Q 79 (.pick (.t 75) (.t 78) (kB false)),Qm 80 79,Qg 81 (.bK 3 (.t 1)) 80 true,Qg 82 (.load false 1 (.t 81)) 80 true,Qg 83 (.call 148 [.t 82] [] []) 80 true,
   Q 84 (.pick (.t 80) (.t 83) (kB false)),Qm 2 84] [2] [])
 (.ret)))) (.seq (.aj [Q 86 (.bin .eql (.t 16) (kI 6)),Qm 85 86] [1,3,4,16,85] [1,3])
 (.cond (.t 85) (.seq (.aj [Qf 87 2 1,Ql 88 87,Qf 89 2 3,Qs 1 89 88] [1,3,4] [1,3])
 (.seq (.aj [Qm 90 4,Qm 91 90,Qg 92 (.load true 5 (.t 1)) 91 true,Qg 93 (.load true 5 (.t 3)) 91 true,Qg 94 (.eqs false [.int,.int,.int,.int,.str] (.t 92) (.t 93)) 91 true,
   Q 95 (.pick (.t 91) (.t 94) (kB false)),Qm 96 95,Qg 97 (.bK 2 (.t 1)) 96 true,Qg 98 (.load false 1 (.t 97)) 96 true,Qg 99 (.call 147 [.t 98] [] []) 96 true,
   Q 100 (.pick (.t 96) (.t 99) (kB false)),Qm 2 100] [2] [])
 (.ret))) (.seq (.aj [Q 102 (.bin .eql (.t 16) (kI 7)),Qm 101 102] [1,101] [1])
 (.cond (.t 101) (.seq (.aj [Qf 104 4 1,Ql 105 104,Q 106 (.call 76 [.t 105] [] []),Qm 103 106,Qx 107 0 103,Qx 108 1 103,Q 5 (.alloc [.int .i64 0,.int .i64 0,.aO 7,.aO 1]),Qs 4 5 107,Qm 6 108] [1,6] [1])
 (.seq (.aj [Qm 109 6,Qm 110 109,Qg 111 (.load true 5 (.t 1)) 110 true,Qg 112 (.bK 4 (.t 1)) 110 true,Qg 113 (.load false 1 (.t 112)) 110 true,
   Qg 114 (.build [.int .i64 0,.int .i64 0,.int .i64 0,.int .i64 0,.str ⟨#[]⟩] [(0,1,kI 7),(4,1,.t 113)]) 110 true,
   Qg 115 (.eqs false [.int,.int,.int,.int,.str] (.t 111) (.t 114)) 110 true,Q 116 (.pick (.t 110) (.t 115) (kB false)),Qm 2 116] [2] [])
 (.ret))) (.skip)))))))))))))))
 (.seq (.aj [Qb 2 false] [2] [])
 (.ret)))))
def aP.m:Fn:={np:=1,body:=aP.b,res:=[.tmp 2]}
def aP.k(M:Nat→Option Body):Prop:=M 59=some (.code aP.m)∧bH.k M∧ei.k M∧gG.k M∧fV.k M
def fh.b:C:= .seq (.aj [Q 2 (.alloc [.int .i64 0,.int .i64 0,.int .i64 0,.int .i64 0,.str ⟨#[]⟩]),Qb 3 false] [0,2] [2])
 (.seq (.seq (.aj [Qm 6 0,Q 7 (.bin .eql (.t 6) (.k (.str ⟨#[]⟩)))] [0,2,7] [2])
 (.cond (.t 7) (.seq (.aj [Q 8 (.build [.int .i64 0,.int .i64 0,.int .i64 0,.int .i64 0,.str ⟨#[]⟩] []),Qs 5 2 8,Qb 3 false] [2,3] [2])
 (.ret)) (.skip)))
 (.seq (.aj [Qm 9 0,Q 10 (.build [.str ⟨#[]⟩,.int .i64 0,.bool false] [(0,1,.t 9),(1,1,kI 1)]),Qv 11 10,Qm 4 11] [0,2,4] [2,11])
 (.seq (.gf [Qm 12 0,Q 13 (.idx (.t 12) (kI 0)),Q 14 (.q9 .i64 (.t 13)),Qm 15 4,Q 16 (.call 139 [.t 15] [0] []),
   Q 17 (.build [.int .i64 0,.int .i64 0,.int .i64 0,.int .i64 0,.str ⟨#[]⟩] [(0,1,.t 14),(1,1,.t 16)]),
   Q 5 (.alloc [.int .i64 0,.int .i64 0,.int .i64 0,.int .i64 0,.str ⟨#[]⟩]),Qs 5 5 17] [[],[0],[0,1],[],[3],lr 5,[],lr 7] [0,2,4,5] [2,5,11])
 (.seq (.aj [Qm 18 4,Q 19 (.call 139 [.t 18] [0] []),Qf 20 2 5,Qs 1 20 19] [0,2,4,5] [2,5,11])
 (.seq (.aj [Qm 21 4,Q 22 (.call 139 [.t 21] [0] []),Qf 23 3 5,Qs 1 23 22] [0,2,4,5] [2,5,11])
 (.seq (.aj [Qm 24 4,Q 25 (.call 140 [.t 24] [0] []),Qf 26 4 5,Qs 1 26 25] [0,2,4,5] [2,5,11])
 (.seq (.seq (.aj [Qm 27 4,Q 28 (.j1 (.t 27)),Qf 29 2 28,Ql 30 29,Qm 31 30,Qg 32 (.mv (.t 4)) 31 false,Qg 33 (.j1 (.t 32)) 31 false,Qg 34 (.bK 1 (.t 33)) 31 false,
   Qg 35 (.load false 1 (.t 34)) 31 false,Qg 36 (.mv (.t 0)) 31 false,Qg 37 (.lu (.t 36)) 31 false,Qg 38 (.bin .neq (.t 35) (.t 37)) 31 false,
   Q 39 (.pick (.t 31) (kB true) (.t 38)),Qm 40 39,Qg 41 (.load true 5 (.t 5)) 40 false,Qg 42 (.call 58 [.t 41] [] []) 40 false,Qg 43 (.not (.t 42)) 40 false,
   Q 44 (.pick (.t 40) (kB true) (.t 43))] [2,5,44] [2,5])
 (.cond (.t 44) (.seq (.aj [Q 45 (.build [.int .i64 0,.int .i64 0,.int .i64 0,.int .i64 0,.str ⟨#[]⟩] []),Qs 5 2 45,Qb 3 false] [2,3] [2])
 (.ret)) (.skip)))
 (.seq (.aj [QL 46 5 5,Qs 5 2 46,Qb 3 true] [2,3] [2])
 (.ret)))))))))
def fh.m:Fn:={np:=1,body:=fh.b,res:=[.cell 2 true 5,.tmp 3]}
def fh.k(M:Nat→Option Body):Prop:=M 64=some (.code fh.m)∧aX.k M∧cq.k M∧fZ.k M
def eR.b:C:= .seq (.aj [Q 2 (.alloc [.int .i64 0,.int .i64 0,.int .i64 0,.int .i64 0,.str ⟨#[]⟩]),Qb 3 false] [0,2] [2])
 (.seq (.seq (.aj [Qm 6 0,Q 7 (.bin .eql (.t 6) (.k (.str ⟨#[]⟩)))] [0,2,7] [2])
 (.cond (.t 7) (.seq (.aj [Q 8 (.build [.int .i64 0,.int .i64 0,.int .i64 0,.int .i64 0,.str ⟨#[]⟩] []),Qs 5 2 8,Qb 3 false] [2,3] [2])
 (.ret)) (.skip)))
 (.seq (.aj [Qm 9 0,Q 10 (.build [.str ⟨#[]⟩,.int .i64 0,.bool false] [(0,1,.t 9),(1,1,kI 1)]),Qv 11 10,Qm 4 11] [0,2,4] [2,11])
 (.seq (.gf [Qm 12 0,Q 13 (.idx (.t 12) (kI 0)),Q 14 (.q9 .i64 (.t 13)),Qm 15 4,Q 16 (.call 152 [.t 15] [0] []),
   Q 17 (.build [.int .i64 0,.int .i64 0,.int .i64 0,.int .i64 0,.str ⟨#[]⟩] [(0,1,.t 14),(1,1,.t 16)]),
   Q 5 (.alloc [.int .i64 0,.int .i64 0,.int .i64 0,.int .i64 0,.str ⟨#[]⟩]),Qs 5 5 17] [[],[0],[0,1],[],[3],lr 5,[],lr 7] [0,2,4,5] [2,5,11])
 (.seq (.aj [Qm 18 4,Q 19 (.call 152 [.t 18] [0] []),Qf 20 2 5,Qs 1 20 19] [0,2,4,5] [2,5,11])
 (.seq (.aj [Qm 21 4,Q 22 (.call 152 [.t 21] [0] []),Qf 23 3 5,Qs 1 23 22] [0,2,4,5] [2,5,11])
 (.seq (.aj [Qm 24 4,Q 25 (.call 153 [.t 24] [0] []),Qf 26 4 5,Qs 1 26 25] [0,2,4,5] [2,5,11])
 (.seq (.seq (.aj [Qm 27 4,Q 28 (.j1 (.t 27)),Qf 29 2 28,Ql 30 29,Qm 31 30,Qg 32 (.mv (.t 4)) 31 false,Qg 33 (.j1 (.t 32)) 31 false,Qg 34 (.bK 1 (.t 33)) 31 false,
   Qg 35 (.load false 1 (.t 34)) 31 false,Qg 36 (.mv (.t 0)) 31 false,Qg 37 (.lu (.t 36)) 31 false,Qg 38 (.bin .neq (.t 35) (.t 37)) 31 false,
   Q 39 (.pick (.t 31) (kB true) (.t 38)),Qm 40 39,Qg 41 (.load true 5 (.t 5)) 40 false,Qg 42 (.call 59 [.t 41] [] []) 40 false,Qg 43 (.not (.t 42)) 40 false,
   Q 44 (.pick (.t 40) (kB true) (.t 43))] [2,5,44] [2,5])
 (.cond (.t 44) (.seq (.aj [Q 45 (.build [.int .i64 0,.int .i64 0,.int .i64 0,.int .i64 0,.str ⟨#[]⟩] []),Qs 5 2 45,Qb 3 false] [2,3] [2])
 (.ret)) (.skip)))
 (.seq (.aj [QL 46 5 5,Qs 5 2 46,Qb 3 true] [2,3] [2])
 (.ret)))))))))
def eR.m:Fn:={np:=1,body:=eR.b,res:=[.cell 2 true 5,.tmp 3]}
def eR.k(M:Nat→Option Body):Prop:=M 65=some (.code eR.m)∧aP.k M∧bS.k M∧eH.k M
def gL.b:C:= .seq (.aj [Qv 1 0,Q 2 (.mv (.k (.str ⟨#[]⟩))),Qb 3 false] [1] [1])
 (.seq (.seq (.aj [QL 4 5 1,Q 5 (.call 58 [.t 4] [] []),Q 6 (.not (.t 5))] [1,6] [1])
 (.cond (.t 6) (.seq (.aj [Q 2 (.mv (.k (.str ⟨#[]⟩))),Qb 3 false] [2,3] [])
 (.ret)) (.skip)))
 (.seq (.gf [Qf 7 0 1,Ql 8 7,Q 9 (.q9 .u8 (.t 8)),Q 10 (.bL 1 1 [.int .u8 0] [(0,.t 9)]),Q 11 (.CC (.t 10)),Qf 12 1 1,Ql 13 12,Q 14 (.call 99 [.t 13] [] []),
   Q 15 (.bin .add (.t 11) (.t 14)),Qf 16 2 1,Ql 17 16,Q 18 (.call 99 [.t 17] [] []),Q 19 (.bin .add (.t 15) (.t 18)),Qf 20 3 1,Ql 21 20,Q 22 (.call 99 [.t 21] [] []),
   Q 23 (.bin .add (.t 19) (.t 22)),Qf 24 4 1,Ql 25 24,Q 26 (.lu (.t 25)),Q 27 (.call 99 [.t 26] [] []),Q 28 (.bin .add (.t 23) (.t 27)),Qf 29 4 1,Ql 30 29,
   Q 31 (.bin .add (.t 28) (.t 30)),Qm 2 31,Qb 3 true] [[],[0],[0,1],[0,1,2],lr 4,[],[5],[5,6],lr 8,[],[9],[5,6,7,9,10],lr 12,[],[13],[5,6,7,9,10,11,13,14],lr 16,[],[17],[17,18],[5,6,7,9,10,11,13,14,15,17,18,19],lr 21,[],[22],lr 24,lr 25,lr 26] [2,3] [])
 (.ret)))
def gL.m:Fn:={np:=1,body:=gL.b,res:=[.tmp 2,.tmp 3]}
def gL.k(M:Nat→Option Body):Prop:=M 67=some (.code gL.m)∧aX.k M∧bG.k M
def gw.b:C:= .seq (.aj [Qv 1 0,Q 2 (.mv (.k (.str ⟨#[]⟩))),Qb 3 false] [1] [1])
 (.seq (.seq (.aj [QL 4 5 1,Q 5 (.call 59 [.t 4] [] []),Q 6 (.not (.t 5))] [1,6] [1])
 (.cond (.t 6) (.seq (.aj [Q 2 (.mv (.k (.str ⟨#[]⟩))),Qb 3 false] [2,3] [])
 (.ret)) (.skip)))
 (.seq (.gf [Qf 7 0 1,Ql 8 7,Q 9 (.q9 .u8 (.t 8)),Q 10 (.bL 1 1 [.int .u8 0] [(0,.t 9)]),Q 11 (.CC (.t 10)),Qf 12 1 1,Ql 13 12,Qf 14 2 1,Ql 15 14,Qf 16 3 1,Ql 17 16,
   Q 18 (.bL 1 3 [.int .i64 0] [(0,.t 13),(1,.t 15),(2,.t 17)]),Q 19 (.call 151 [.t 18] [] []),Q 20 (.bin .add (.t 11) (.t 19)),Qf 21 4 1,Ql 22 21,
   Q 23 (.call 102 [.t 22] [] []),Q 24 (.bin .add (.t 20) (.t 23)),Qm 2 24,Qb 3 true] [[],[0],[0,1],[0,1,2],lr 4,[],[5],[],[7],[],[9],[5,6,7,8,9,10],[5,6,7,8,9,10,11],lr 13,[],[14],[5,6,7,8,9,10,11,12,14,15],lr 17,lr 18,lr 19] [2,3] [])
 (.ret)))
def gw.m:Fn:={np:=1,body:=gw.b,res:=[.tmp 2,.tmp 3]}
def gw.k(M:Nat→Option Body):Prop:=M 68=some (.code gw.m)∧aP.k M∧jQ.k M∧ji.k M
end Mx

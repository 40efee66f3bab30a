/-
  What more of the functions compute, each by a small evaluation; no condition beyond what each says.
-/
import Derived.Laws.IdiomCopy
import Derived.Laws.Append
import Derived.Lib.SlicesCompact
import Derived.Test.YtcihgbflbmhkbaaGreatMxCab
set_option maxHeartbeats 16000000
set_option linter.unusedSimpArgs false
set_option linter.unusedVariables false
namespace Mx
open Go
def bX.l0:C:= .seq (.seq (.ak [Qm 9 6,Qm 10 0,Q 11 (.len (.t 10)),Q 12 (.bin .lss (.t 9) (.t 11))] [0,1,5,6,12] [8,27,31,50])
 (.cond (.t 12) (.skip) (.exit 0)))
 (.seq (.block 1 (.seq (.ak [Qm 15 0,Qm 16 6,Qa 17 1 15 16,Ql 18 17,Qm 19 1,Q 20 (.bin .lss (.t 18) (.t 19))] [0,1,5,6,20] [8,27,31,50])
 (.cond (.t 20) (.ak [Qm 21 5,Qm 22 0,Qm 23 6,Qa 24 1 22 23,Ql 25 24,Q 26 (.bZ 1 1 [.int .i64 0] [(0,.t 25)]),Q 27 (.app 1 8 (.t 21) (.t 26)),Qm 5 27] [0,1,5,6] [8,27,31,50]) (.skip))))
 (.ak [Qm 13 6,Q 14 (.bin .add (.t 13) (kI 1)),Qm 6 14] [0,1,5,6] [8,27,31,50]))
def bX.l1:C:= .seq (.seq (.ak [Qm 32 7,Qm 33 0,Q 34 (.len (.t 33)),Q 35 (.bin .lss (.t 32) (.t 34))] [0,1,5,7,35] [8,27,31,50])
 (.cond (.t 35) (.skip) (.exit 2)))
 (.seq (.block 3 (.seq (.ak [Qm 38 0,Qm 39 7,Qa 40 1 38 39,Ql 41 40,Qm 42 1,Q 43 (.bin .gtr (.t 41) (.t 42))] [0,1,5,7,43] [8,27,31,50])
 (.cond (.t 43) (.ak [Qm 44 5,Qm 45 0,Qm 46 7,Qa 47 1 45 46,Ql 48 47,Q 49 (.bZ 1 1 [.int .i64 0] [(0,.t 48)]),Q 50 (.app 1 8 (.t 44) (.t 49)),Qm 5 50] [0,1,5,7] [8,27,31,50]) (.skip))))
 (.ak [Qm 36 7,Q 37 (.bin .add (.t 36) (kI 1)),Qm 7 37] [0,1,5,7] [8,27,31,50]))
def bX.b:C:= .seq (.ak [Q 4 (.nil 1)] [0,1] [])
 (.seq (.ak [Q 8 (.bZ 1 0 [.int .i64 0] []),Qm 5 8] [0,1,5] [8,27,31,50])
 (.seq (.seq (.ak [Qi 6 0] [0,1,5,6] [8,27,31,50])
 (.block 0 (.loop bX.l0)))
 (.seq (.ak [Qm 28 5,Qm 29 1,Q 30 (.bZ 1 1 [.int .i64 0] [(0,.t 29)]),Q 31 (.app 1 8 (.t 28) (.t 30)),Qm 5 31] [0,1,5] [8,27,31,50])
 (.seq (.seq (.ak [Qi 7 0] [0,1,5,7] [8,27,31,50])
 (.block 2 (.loop bX.l1)))
 (.seq (.ak [Qm 51 5,Qm 4 51] [4] [4,8,27,31,50])
 (.ret))))))
def bX.m:Fn:={np:=2,body:=bX.b,res:=[.tmp 4]}
def bX.k(M:Nat→Option Body):Prop:=M 133=some (.code bX.m)
def aU.l0:C:= .seq (.seq (.ak [Qm 9 6,Qm 10 0,Q 11 (.len (.t 10)),Q 12 (.bin .lss (.t 9) (.t 11))] [0,1,5,6,12] [8,12700,14600])
 (.cond (.t 12) (.skip) (.exit 0)))
 (.seq (.block 1 (.seq (.ak [Qm 15 5,Qm 16 0,Qm 17 6,Qa 18 1 16 17,Ql 19 18,Q 20 (.call 132 [.t 15,.t 19] [] []),Q 21 (.not (.t 20))] [0,1,5,6,21] [8,12700,14600])
 (.cond (.t 21) (.ak [Qm 22 5,Qm 23 0,Qm 24 6,Qa 25 1 23 24,Ql 26 25,Q 27 (.call 133 [.t 22,.t 26] [] [(0,12700)]),Qm 5 27] [0,1,5,6] [8,12700,14600]) (.skip))))
 (.ak [Qm 13 6,Q 14 (.bin .add (.t 13) (kI 1)),Qm 6 14] [0,1,5,6] [8,12700,14600]))
def aU.l1:C:= .seq (.seq (.ak [Qm 28 7,Qm 29 1,Q 30 (.len (.t 29)),Q 31 (.bin .lss (.t 28) (.t 30))] [1,5,7,31] [8,12700,14600])
 (.cond (.t 31) (.skip) (.exit 2)))
 (.seq (.block 3 (.seq (.ak [Qm 34 5,Qm 35 1,Qm 36 7,Qa 37 1 35 36,Ql 38 37,Q 39 (.call 132 [.t 34,.t 38] [] []),Q 40 (.not (.t 39))] [1,5,7,40] [8,12700,14600])
 (.cond (.t 40) (.ak [Qm 41 5,Qm 42 1,Qm 43 7,Qa 44 1 42 43,Ql 45 44,Q 46 (.call 133 [.t 41,.t 45] [] [(0,14600)]),Qm 5 46] [1,5,7] [8,12700,14600]) (.skip))))
 (.ak [Qm 32 7,Q 33 (.bin .add (.t 32) (kI 1)),Qm 7 33] [1,5,7] [8,12700,14600]))
def aU.b:C:= .seq (.ak [Q 4 (.nil 1)] [0,1] [])
 (.seq (.ak [Q 8 (.bZ 1 0 [.int .i64 0] []),Qm 5 8] [0,1,5] [8,12700,14600])
 (.seq (.seq (.ak [Qi 6 0] [0,1,5,6] [8,12700,14600])
 (.block 0 (.loop aU.l0)))
 (.seq (.seq (.ak [Qi 7 0] [1,5,7] [8,12700,14600])
 (.block 2 (.loop aU.l1)))
 (.seq (.ak [Qm 47 5,Qm 4 47] [4] [4,8,12700,14600])
 (.ret)))))
def aU.m:Fn:={np:=2,body:=aU.b,res:=[.tmp 4]}
def aU.k(M:Nat→Option Body):Prop:=M 43=some (.code aU.m)∧bf.k M∧bX.k M
def fh.b:C:= .seq (.ak [Q 4 (.nil 1)] [0,1] [])
 (.seq (.ak [Qm 6 0,Q 7 (.call 134 [.t 6] [] [(0,10700)]),Qm 8 1,Q 9 (.app 1 8 (.t 7) (.t 8)),Qm 5 9] [5] [9,10700])
 (.seq (.ak [Qm 10 5,Q 11 (.call 135 [.t 10] [0] [])] [5] [9,10700])
 (.seq (.ak [Qm 12 5,Q 13 (.call 136 [.t 12] [0] [(0,11300)]),Qm 4 13] [4] [4,9,10700,11300])
 (.ret))))
def fh.m:Fn:={np:=2,body:=fh.b,res:=[.tmp 4]}
def fh.k(M:Nat→Option Body):Prop:=M 44=some (.code fh.m)∧eJ.k M∧M 135=some (.ext tO)∧M 136=some (.ext nF)
def fw.b:C:= .seq (.ak [Qb 2 false] [0] [])
 (.seq (.ak [Qm 3 0,Q 4 (.call 101 [.t 3,kI 0,kI 7] [] []),Qm 2 4] [2] [])
 (.ret))
def fw.m:Fn:={np:=1,body:=fw.b,res:=[.tmp 2]}
def fw.k(M:Nat→Option Body):Prop:=M 148=some (.code fw.m)∧b_.k M
def ch.l0:C:= .seq (.seq (.ak [Qm 34 5,Qf 35 2 2,Ql 36 35,Q 37 (.len (.t 36)),Q 38 (.bin .lss (.t 34) (.t 37))] [2,3,5,38] [2,3])
 (.cond (.t 38) (.skip) (.exit 0)))
 (.seq (.block 1 (.seq (.gm [Qf 41 2 2,Ql 42 41,Qm 43 5,Qa 44 3 42 43,QL 45 3 44,Qf 46 2 3,Ql 47 46,Qm 48 5,Qa 49 3 47 48,QL 50 3 49,Q 51 (.eqs true [.int,.int,.int] (.t 45) (.t 50))] [[],[0],[],[0,1,2],[0,1,2,3],[],[5],[],[5,6,7],[5,6,7,8],[0,1,2,3,4,5,6,7,8,9]] [2,3,5,51] [2,3])
 (.cond (.t 51) (.seq (.ak [Qb 4 false] [4] [])
 (.ret)) (.skip))))
 (.ak [Qm 39 5,Q 40 (.bin .add (.t 39) (kI 1)),Qm 5 40] [2,3,5] [2,3]))
def ch.b:C:= .seq (.ak [Qv 2 0,Qv 3 1,Qb 4 false] [2,3] [2,3])
 (.seq (.seq (.ak [Qf 6 0 2,Ql 7 6,Qf 8 0 3,Ql 9 8,Q 10 (.bin .neq (.t 7) (.t 9)),Qm 11 10,Qg 12 (.bH 1 (.t 2)) 11 false,Qg 13 (.load false 1 (.t 12)) 11 false,
   Qg 14 (.bH 1 (.t 3)) 11 false,Qg 15 (.load false 1 (.t 14)) 11 false,Qg 16 (.bin .neq (.t 13) (.t 15)) 11 false,Q 17 (.pick (.t 11) (kB true) (.t 16)),Qm 18 17,
   Qg 19 (.bH 3 (.t 2)) 18 false,Qg 20 (.load false 1 (.t 19)) 18 false,Qg 21 (.bH 3 (.t 3)) 18 false,Qg 22 (.load false 1 (.t 21)) 18 false,
   Qg 23 (.bin .neq (.t 20) (.t 22)) 18 false,Q 24 (.pick (.t 18) (kB true) (.t 23)),Qm 25 24,Qg 26 (.bH 2 (.t 2)) 25 false,Qg 27 (.load false 1 (.t 26)) 25 false,
   Qg 28 (.len (.t 27)) 25 false,Qg 29 (.bH 2 (.t 3)) 25 false,Qg 30 (.load false 1 (.t 29)) 25 false,Qg 31 (.len (.t 30)) 25 false,Qg 32 (.bin .neq (.t 28) (.t 31)) 25 false,
   Q 33 (.pick (.t 25) (kB true) (.t 32))] [2,3,33] [2,3])
 (.cond (.t 33) (.seq (.ak [Qb 4 false] [4] [])
 (.ret)) (.skip)))
 (.seq (.seq (.ak [Qi 5 0] [2,3,5] [2,3])
 (.block 0 (.loop ch.l0)))
 (.seq (.ak [Qb 4 true] [4] [])
 (.ret))))
def ch.m:Fn:={np:=2,body:=ch.b,res:=[.tmp 4]}
def ch.k(M:Nat→Option Body):Prop:=M 159=some (.code ch.m)
def bK.l0:C:= .seq (.seq (.ak [Qm 51 5,Qf 52 5 2,Ql 53 52,Q 54 (.len (.t 53)),Q 55 (.bin .lss (.t 51) (.t 54))] [2,3,5,55] [2,3])
 (.cond (.t 55) (.skip) (.exit 0)))
 (.seq (.block 1 (.seq (.gm [Qf 58 5 2,Ql 59 58,Qm 60 5,Qa 61 4 59 60,QL 62 4 61,Qf 63 5 3,Ql 64 63,Qm 65 5,Qa 66 4 64 65,QL 67 4 66,Q 68 (.call 159 [.t 62,.t 67] [] []),Q 69 (.not (.t 68))] [[],[0],[],[0,1,2],[0,1,2,3],[],[5],[],[5,6,7],[5,6,7,8],[0,1,2,3,4,5,6,7,8,9],[0,1,2,3,4,5,6,7,8,9,10]] [2,3,5,69] [2,3])
 (.cond (.t 69) (.seq (.ak [Qb 4 false] [4] [])
 (.ret)) (.skip))))
 (.ak [Qm 56 5,Q 57 (.bin .add (.t 56) (kI 1)),Qm 5 57] [2,3,5] [2,3]))
def bK.l1:C:= .seq (.seq (.ak [Qm 70 6,Qf 71 6 2,Ql 72 71,Q 73 (.len (.t 72)),Q 74 (.bin .lss (.t 70) (.t 73))] [2,3,6,74] [2,3])
 (.cond (.t 74) (.skip) (.exit 2)))
 (.seq (.block 3 (.seq (.gm [Qf 77 6 2,Ql 78 77,Qm 79 6,Qa 80 1 78 79,Ql 81 80,Qf 82 6 3,Ql 83 82,Qm 84 6,Qa 85 1 83 84,Ql 86 85,Q 87 (.bin .neq (.t 81) (.t 86))] [[],[0],[],[0,1,2],[0,1,2,3],[],[5],[],[5,6,7],[5,6,7,8],[0,1,2,3,4,5,6,7,8,9]] [2,3,6,87] [2,3])
 (.cond (.t 87) (.seq (.ak [Qb 4 false] [4] [])
 (.ret)) (.skip))))
 (.ak [Qm 75 6,Q 76 (.bin .add (.t 75) (kI 1)),Qm 6 76] [2,3,6] [2,3]))
def bK.b:C:= .seq (.ak [Qv 2 0,Qv 3 1,Qb 4 false] [2,3] [2,3])
 (.seq (.seq (.ak [Qf 7 0 2,Ql 8 7,Qf 9 0 3,Ql 10 9,Q 11 (.bin .neq (.t 8) (.t 10)),Qm 12 11,Qg 13 (.bH 1 (.t 2)) 12 false,Qg 14 (.load false 1 (.t 13)) 12 false,
   Qg 15 (.bH 1 (.t 3)) 12 false,Qg 16 (.load false 1 (.t 15)) 12 false,Qg 17 (.bin .neq (.t 14) (.t 16)) 12 false,Q 18 (.pick (.t 12) (kB true) (.t 17)),Qm 19 18,
   Qg 20 (.bH 2 (.t 2)) 19 false,Qg 21 (.load true 2 (.t 20)) 19 false,Qg 22 (.bH 2 (.t 3)) 19 false,Qg 23 (.load true 2 (.t 22)) 19 false,
   Qg 24 (.eqs true [.int,.int] (.t 21) (.t 23)) 19 false,Q 25 (.pick (.t 19) (kB true) (.t 24)),Qm 26 25,Qg 27 (.bH 4 (.t 2)) 26 false,Qg 28 (.load false 1 (.t 27)) 26 false,
   Qg 29 (.bH 4 (.t 3)) 26 false,Qg 30 (.load false 1 (.t 29)) 26 false,Qg 31 (.bin .neq (.t 28) (.t 30)) 26 false,Q 32 (.pick (.t 26) (kB true) (.t 31)),Qm 33 32,
   Qg 34 (.bH 5 (.t 2)) 33 false,Qg 35 (.load false 1 (.t 34)) 33 false,Qg 36 (.len (.t 35)) 33 false,Qg 37 (.bH 5 (.t 3)) 33 false,Qg 38 (.load false 1 (.t 37)) 33 false,
   Qg 39 (.len (.t 38)) 33 false,Qg 40 (.bin .neq (.t 36) (.t 39)) 33 false,Q 41 (.pick (.t 33) (kB true) (.t 40)),Qm 42 41,Qg 43 (.bH 6 (.t 2)) 42 false,
   Qg 44 (.load false 1 (.t 43)) 42 false,Qg 45 (.len (.t 44)) 42 false,Qg 46 (.bH 6 (.t 3)) 42 false,Qg 47 (.load false 1 (.t 46)) 42 false,Qg 48 (.len (.t 47)) 42 false,
   Qg 49 (.bin .neq (.t 45) (.t 48)) 42 false,Q 50 (.pick (.t 42) (kB true) (.t 49))] [2,3,50] [2,3])
 (.cond (.t 50) (.seq (.ak [Qb 4 false] [4] [])
 (.ret)) (.skip)))
 (.seq (.seq (.ak [Qi 5 0] [2,3,5] [2,3])
 (.block 0 (.loop bK.l0)))
 (.seq (.seq (.ak [Qi 6 0] [2,3,6] [2,3])
 (.block 2 (.loop bK.l1)))
 (.seq (.ak [Qb 4 true] [4] [])
 (.ret)))))
def bK.m:Fn:={np:=2,body:=bK.b,res:=[.tmp 4]}
def bK.k(M:Nat→Option Body):Prop:=M 116=some (.code bK.m)∧ch.k M
def cU.l0:C:= .seq (.seq (.ak [Qm 23 5,Qf 24 2 2,Ql 25 24,Q 26 (.len (.t 25)),Q 27 (.bin .lss (.t 23) (.t 26))] [2,3,5,27] [2,3])
 (.cond (.t 27) (.skip) (.exit 0)))
 (.seq (.block 1 (.seq (.gm [Qf 30 2 2,Ql 31 30,Qm 32 5,Qa 33 7 31 32,QL 34 7 33,Qf 35 2 3,Ql 36 35,Qm 37 5,Qa 38 7 36 37,QL 39 7 38,Q 40 (.call 116 [.t 34,.t 39] [] []),Q 41 (.not (.t 40))] [[],[0],[],[0,1,2],[0,1,2,3],[],[5],[],[5,6,7],[5,6,7,8],[0,1,2,3,4,5,6,7,8,9],[0,1,2,3,4,5,6,7,8,9,10]] [2,3,5,41] [2,3])
 (.cond (.t 41) (.seq (.ak [Qb 4 false] [4] [])
 (.ret)) (.skip))))
 (.ak [Qm 28 5,Q 29 (.bin .add (.t 28) (kI 1)),Qm 5 29] [2,3,5] [2,3]))
def cU.l1:C:= .seq (.seq (.ak [Qm 42 6,Qf 43 3 2,Ql 44 43,Q 45 (.len (.t 44)),Q 46 (.bin .lss (.t 42) (.t 45))] [2,3,6,46] [2,3])
 (.cond (.t 46) (.skip) (.exit 2)))
 (.seq (.block 3 (.seq (.gm [Qf 49 3 2,Ql 50 49,Qm 51 6,Qa 52 1 50 51,Ql 53 52,Qf 54 3 3,Ql 55 54,Qm 56 6,Qa 57 1 55 56,Ql 58 57,Q 59 (.bin .neq (.t 53) (.t 58))] [[],[0],[],[0,1,2],[0,1,2,3],[],[5],[],[5,6,7],[5,6,7,8],[0,1,2,3,4,5,6,7,8,9]] [2,3,6,59] [2,3])
 (.cond (.t 59) (.seq (.ak [Qb 4 false] [4] [])
 (.ret)) (.skip))))
 (.ak [Qm 47 6,Q 48 (.bin .add (.t 47) (kI 1)),Qm 6 48] [2,3,6] [2,3]))
def cU.b:C:= .seq (.ak [Qv 2 0,Qv 3 1,Qb 4 false] [2,3] [2,3])
 (.seq (.seq (.ak [Qf 7 2 2,Ql 8 7,Q 9 (.len (.t 8)),Qf 10 2 3,Ql 11 10,Q 12 (.len (.t 11)),Q 13 (.bin .neq (.t 9) (.t 12)),Qm 14 13,Qg 15 (.bH 3 (.t 2)) 14 false,
   Qg 16 (.load false 1 (.t 15)) 14 false,Qg 17 (.len (.t 16)) 14 false,Qg 18 (.bH 3 (.t 3)) 14 false,Qg 19 (.load false 1 (.t 18)) 14 false,Qg 20 (.len (.t 19)) 14 false,
   Qg 21 (.bin .neq (.t 17) (.t 20)) 14 false,Q 22 (.pick (.t 14) (kB true) (.t 21))] [2,3,22] [2,3])
 (.cond (.t 22) (.seq (.ak [Qb 4 false] [4] [])
 (.ret)) (.skip)))
 (.seq (.seq (.ak [Qi 5 0] [2,3,5] [2,3])
 (.block 0 (.loop cU.l0)))
 (.seq (.seq (.ak [Qi 6 0] [2,3,6] [2,3])
 (.block 2 (.loop cU.l1)))
 (.seq (.ak [Qb 4 true] [4] [])
 (.ret)))))
def cU.m:Fn:={np:=2,body:=cU.b,res:=[.tmp 4]}
def cU.k(M:Nat→Option Body):Prop:=M 31=some (.code cU.m)∧bK.k M
def fZ.b:C:= .seq (.ak [Q 2 (.nil 3)] [0] [])
 (.seq (.ak [Q 3 (.bZ 3 0 [.int .i64 0,.int .i64 0,.int .i64 0] []),Qm 4 0,Q 5 (.app 3 24 (.t 3) (.t 4)),Qm 2 5] [2] [2,3,5])
 (.ret))
def fZ.m:Fn:={np:=1,body:=fZ.b,res:=[.tmp 2]}
def fZ.k(M:Nat→Option Body):Prop:=M 239=some (.code fZ.m)
def ee.b:C:= .seq (.ak [Qv 1 0,Q 2 (.alloc [.int .i64 0,.int .i64 0,.aN 3,.str ⟨#[]⟩])] [1,2] [1,2,10500])
 (.seq (.ak [Qf 3 2 1,Ql 4 3,Q 5 (.call 239 [.t 4] [] [(0,10500)]),Qf 6 2 1,Qs 1 6 5] [1,2] [1,2,10500])
 (.seq (.ak [QL 7 4 1,Qs 4 2 7] [2] [2,10500])
 (.ret)))
def ee.m:Fn:={np:=1,body:=ee.b,res:=[.cell 2 true 4]}
def ee.k(M:Nat→Option Body):Prop:=M 233=some (.code ee.m)∧fZ.k M
def cq.l0:C:= .seq (.ak [Q 13 (.bin .lss (.t 12) (.t 11))] [1,2,3,10,11,12,13] [1,2,3,7,21,12600])
 (.seq (.cond (.t 13) (.skip) (.exit 0))
 (.seq (.block 1 (.seq (.ak [Qa 14 4 10 12,QL 15 4 14,Q 5 (.alloc [.int .i64 0,.int .i64 0,.aN 3,.str ⟨#[]⟩]),Qs 4 5 15] [1,2,3,5,10,11,12] [1,2,3,5,7,21,12600])
 (.gm [Qf 16 5 3,Ql 17 16,QL 18 4 5,Q 19 (.call 233 [.t 18] [] []),Q 20 (.bZ 4 1 [.int .i64 0,.int .i64 0,.aN 3,.str ⟨#[]⟩] [(0,.t 19)]),Q 21 (.app 4 56 (.t 17) (.t 20)),
   Qf 22 5 3,Qs 1 22 21] [[],[0],[],[2],[2,3],lr 5,lr 6,lr 7] [1,2,3,10,11,12] [1,2,3,7,21,12600])))
 (.ak [Q 23 (.bin .add (.t 12) (kI 1)),Qm 12 23] [1,2,3,10,11,12] [1,2,3,7,21,12600])))
def cq.b:C:= .seq (.ak [Qv 1 0,Q 2 (.alloc [.int .i64 0,.str ⟨#[]⟩,.int .i64 0,.int .i64 0,.int .i64 0,.aN 4,.aN 1])] [1,2] [1,2,7,21,12600])
 (.seq (.ak [QL 6 7 1,Q 3 (.alloc [.int .i64 0,.str ⟨#[]⟩,.int .i64 0,.int .i64 0,.int .i64 0,.aN 4,.aN 1]),Qs 7 3 6] [1,2,3] [1,2,3,7,21,12600])
 (.seq (.ak [Q 7 (.bZ 4 0 [.int .i64 0,.int .i64 0,.aN 3,.str ⟨#[]⟩] []),Qf 8 5 3,Qs 1 8 7] [1,2,3] [1,2,3,7,21,12600])
 (.seq (.seq (.ak [Qf 9 5 1,Ql 10 9,Q 11 (.len (.t 10)),Qi 12 0] [1,2,3,10,11,12] [1,2,3,7,21,12600])
 (.block 0 (.loop cq.l0)))
 (.seq (.ak [Qf 24 6 1,Ql 25 24,Q 26 (.call 134 [.t 25] [] [(0,12600)]),Qf 27 6 3,Qs 1 27 26] [2,3] [2,3,7,21,12600])
 (.seq (.ak [QL 28 7 3,Qs 7 2 28] [2] [2,7,21,12600])
 (.ret))))))
def cq.m:Fn:={np:=1,body:=cq.b,res:=[.cell 2 true 7]}
def cq.k(M:Nat→Option Body):Prop:=M 155=some (.code cq.m)∧eJ.k M∧ee.k M
def fN.l0:C:= .seq (.ak [Q 9 (.bin .lss (.t 8) (kI 3))] [0,3,5,8,9] [3,7,19])
 (.seq (.cond (.t 9) (.skip) (.exit 0))
 (.seq (.block 1 (.seq (.ak [Qm 10 8,Qm 6 10] [0,3,5,6,8] [3,7,19])
 (.gm [Qm 11 5,Qm 12 0,Qm 13 6,Q 14 (.bin .shr (.t 12) (.t 13)),Q 15 (.bin .and (.t 14) (kI 1)),QL 16 2 3,
   Q 17 (.build [.int .i64 0,.int .i64 0,.int .i64 0] [(0,1,.t 15),(1,2,.t 16)]),Q 18 (.bZ 3 1 [.int .i64 0,.int .i64 0,.int .i64 0] [(0,.t 17)]),
   Q 19 (.app 3 24 (.t 11) (.t 18)),Qm 5 19] [[],[],[],[1,2],[1,2,3],[],[1,2,3,4,5],[1,2,3,4,5,6],lr 8,lr 9] [0,3,5,8] [3,7,19])))
 (.ak [Q 20 (.bin .add (.t 8) (kI 1)),Qm 8 20] [0,3,5,8] [3,7,19])))
def fN.b:C:= .seq (.ak [Qv 3 1,Q 4 (.nil 3)] [0,3] [3])
 (.seq (.ak [Q 7 (.bZ 3 0 [.int .i64 0,.int .i64 0,.int .i64 0] []),Qm 5 7] [0,3,5] [3,7,19])
 (.seq (.seq (.ak [Qi 8 0] [0,3,5,8] [3,7,19])
 (.block 0 (.loop fN.l0)))
 (.seq (.ak [Qm 21 5,Qm 4 21] [4] [4,7,19])
 (.ret))))
def fN.m:Fn:={np:=2,body:=fN.b,res:=[.tmp 4]}
def fN.k(M:Nat→Option Body):Prop:=M 157=some (.code fN.m)
def dV.b:C:= .seq (.ak [Qv 5 0,Qv 9 4,Q 10 (.alloc [.int .i64 0,.str ⟨#[]⟩,.int .i64 0,.int .i64 0,.int .i64 0,.aN 4,.aN 1]),Qb 11 false] [1,2,3,5,9,10] [5,9,10,47,11405,11406,15705,15706])
 (.seq (.ak [QL 13 7 5,Q 14 (.call 155 [.t 13] [] [(5,11405),(6,11406)]),Q 12 (.alloc [.int .i64 0,.str ⟨#[]⟩,.int .i64 0,.int .i64 0,.int .i64 0,.aN 4,.aN 1]),Qs 7 12 14] [1,2,3,5,9,10,12] [5,9,10,12,47,11405,11406,15705,15706])
 (.seq (.seq (.ak [QL 15 7 5,Q 16 (.call 74 [.t 15] [] []),Q 17 (.not (.t 16)),Qm 18 17,Qg 19 (.load true 7 (.t 5)) 18 false,Qg 20 (.mv (.t 1)) 18 false,
   Qg 21 (.call 72 [.t 19,.t 20] [] []) 18 false,Qg 22 (.bin .geq (.t 21) (kI 0)) 18 false,Q 23 (.pick (.t 18) (kB true) (.t 22)),Qm 24 23,Qg 25 (.bH 6 (.t 5)) 24 false,
   Qg 26 (.load false 1 (.t 25)) 24 false,Qg 27 (.mv (.t 1)) 24 false,Qg 28 (.call 156 [.t 26,.t 27] [] []) 24 false,Q 29 (.pick (.t 24) (kB true) (.t 28)),Qm 30 29,
   Qg 31 (.mv (.t 2)) 30 false,Qg 32 (.call 148 [.t 31] [] []) 30 false,Qg 33 (.not (.t 32)) 30 false,Q 34 (.pick (.t 30) (kB true) (.t 33))] [1,2,3,5,9,10,12,34] [5,9,10,12,47,11405,11406,15705,15706])
 (.cond (.t 34) (.seq (.ak [QL 35 7 12,Qs 7 10 35,Qb 11 false] [10,11] [10,47,11405,11406,15705,15706])
 (.ret)) (.skip)))
 (.seq (.gm [Qf 36 5 12,Ql 37 36,Qm 38 1,Qf 39 4 5,Ql 40 39,Qm 41 2,QL 42 2 9,Q 43 (.call 157 [.t 41,.t 42] [] []),Qm 44 3,
   Q 45 (.build [.int .i64 0,.int .i64 0,.aN 3,.str ⟨#[]⟩] [(0,1,.t 38),(1,1,.t 40),(2,1,.t 43),(3,1,.t 44)]),
   Q 46 (.bZ 4 1 [.int .i64 0,.int .i64 0,.aN 3,.str ⟨#[]⟩] [(0,.t 45)]),Q 47 (.app 4 56 (.t 37) (.t 46)),Qf 48 5 12,Qs 1 48 47] [[],[0],[],[],[3],[],[],[5,6],[],[2,3,4,5,6,7,8],[2,3,4,5,6,7,8,9],lr 11,lr 12,lr 13] [5,10,12] [5,10,12,47,11405,11406,15705,15706])
 (.seq (.ak [Qf 49 4 12,Ql 50 49,Q 51 (.bin .add (.t 50) (kI 1)),Qf 52 4 12,Qs 1 52 51] [5,10,12] [5,10,12,47,11405,11406,15705,15706])
 (.seq (.seq (.ak [QL 53 7 12,Q 54 (.call 74 [.t 53] [] []),Q 55 (.not (.t 54))] [5,10,12,55] [5,10,12,47,11405,11406,15705,15706])
 (.cond (.t 55) (.seq (.ak [QL 56 7 5,Q 57 (.call 155 [.t 56] [] [(5,15705),(6,15706)]),Qs 7 10 57,Qb 11 false] [10,11] [10,47,11405,11406,15705,15706])
 (.ret)) (.skip)))
 (.seq (.ak [QL 58 7 12,Qs 7 10 58,Qb 11 true] [10,11] [10,47,11405,11406,15705,15706])
 (.ret)))))))
def dV.m:Fn:={np:=5,body:=dV.b,res:=[.cell 10 true 7,.tmp 11]}
def dV.k(M:Nat→Option Body):Prop:=M 70=some (.code dV.m)∧cE.k M∧bG.k M∧fw.k M∧cq.k M∧aH.k M∧fN.k M
def iR.b:C:= .seq (.ak [Q 4 (.nil 1)] [0,1] [])
 (.seq (.ak [Qm 6 0,Q 7 (.call 134 [.t 6] [] [(0,10700)]),Qm 8 1,Q 9 (.bZ 1 1 [.int .i64 0] [(0,.t 8)]),Q 10 (.app 1 8 (.t 7) (.t 9)),Qm 5 10] [5] [10,10700])
 (.seq (.ak [Qm 11 5,Q 12 (.call 135 [.t 11] [0] [])] [5] [10,10700])
 (.seq (.ak [Qm 13 5,Q 14 (.call 136 [.t 13] [0] [(0,11400)]),Qm 4 14] [4] [4,10,10700,11400])
 (.ret))))
def iR.m:Fn:={np:=2,body:=iR.b,res:=[.tmp 4]}
def iR.k(M:Nat→Option Body):Prop:=M 163=some (.code iR.m)∧eJ.k M∧M 135=some (.ext tO)∧M 136=some (.ext nF)
def a7.b:C:= .seq (.ak [Q 6 (.nil 4)] [0,1,2] [0,26])
 (.seq (.ak [Qm 8 0,Qm 9 1,Qm 10 2,Qm 11 0,Q 12 (.len (.t 11)),Q 13 (.vn 4 (.t 8) (some (.t 9)) (some (.t 10)) (some (.t 12)))] [0,1,2] [0,26])
 (.seq (.seq (.ak [Qm 14 1,Qm 15 2,Q 16 (.bin .eql (.t 14) (.t 15))] [0,1,2,16] [0,26])
 (.cond (.t 16) (.seq (.ak [Qm 17 0,Qm 6 17] [6] [0,6,26])
 (.ret)) (.skip)))
 (.seq (.ak [Qm 18 0,Q 19 (.len (.t 18)),Qm 7 19] [0,1,2,7] [0,26])
 (.seq (.gm [Qm 20 0,Qm 21 1,Q 22 (.vn 4 (.t 20) none (some (.t 21)) none),Qm 23 0,Qm 24 2,Q 25 (.vn 4 (.t 23) (some (.t 24)) none none),Q 26 (.xh 4 56 (.t 22) (.t 25)),Qm 0 26] [[],[],[0,1],[],[],[3,4],lr 6,lr 7] [0,7] [0,26])
 (.seq (.ak [Qm 27 0,Qm 28 0,Q 29 (.len (.t 28)),Qm 30 7,Q 31 (.wU 4 (.t 27) (some (.t 29)) (some (.t 30))),Qn (.DF [.int .i64 0,.int .i64 0,.aN 3,.str ⟨#[]⟩] (.t 31))] [0] [0,26])
 (.seq (.ak [Qm 32 0,Qm 6 32] [6] [0,6,26])
 (.ret)))))))
def a7.m:Fn:={np:=3,body:=a7.b,res:=[.tmp 6]}
def a7.k(M:Nat→Option Body):Prop:=M 162=some (.code a7.m)
def fx.b:C:= .seq (.ak [Qv 2 0,Q 4 (.alloc [.int .i64 0,.str ⟨#[]⟩,.int .i64 0,.int .i64 0,.int .i64 0,.aN 4,.aN 1]),Qb 5 false] [1,2,4] [2,4,10905,10906,13200,13700])
 (.seq (.ak [QL 8 7 2,Q 9 (.call 155 [.t 8] [] [(5,10905),(6,10906)]),Q 6 (.alloc [.int .i64 0,.str ⟨#[]⟩,.int .i64 0,.int .i64 0,.int .i64 0,.aN 4,.aN 1]),Qs 7 6 9] [1,2,4,6] [2,4,6,10905,10906,13200,13700])
 (.seq (.ak [QL 10 7 2,Qm 11 1,Q 12 (.call 72 [.t 10,.t 11] [] []),Qm 7 12] [1,2,4,6,7] [2,4,6,10905,10906,13200,13700])
 (.seq (.seq (.ak [QL 13 7 2,Q 14 (.call 74 [.t 13] [] []),Q 15 (.not (.t 14)),Qm 16 15,Qg 17 (.mv (.t 7)) 16 false,Qg 18 (.bin .lss (.t 17) (kI 0)) 16 false,
   Q 19 (.pick (.t 16) (kB true) (.t 18)),Qm 20 19,Qg 21 (.bH 6 (.t 2)) 20 false,Qg 22 (.load false 1 (.t 21)) 20 false,Qg 23 (.len (.t 22)) 20 false,
   Qg 24 (.bin .eql (.t 23) (kI 40)) 20 false,Q 25 (.pick (.t 20) (kB true) (.t 24))] [1,2,4,6,7,25] [2,4,6,10905,10906,13200,13700])
 (.cond (.t 25) (.seq (.ak [QL 26 7 6,Qs 7 4 26,Qb 5 false] [4,5] [4,10905,10906,13200,13700])
 (.ret)) (.skip)))
 (.seq (.ak [Qf 27 5 6,Ql 28 27,Qm 29 7,Qm 30 7,Q 31 (.bin .add (.t 30) (kI 1)),Q 32 (.call 162 [.t 28,.t 29,.t 31] [0] [(0,13200)]),Qf 33 5 6,Qs 1 33 32] [1,2,4,6] [2,4,6,10905,10906,13200,13700])
 (.seq (.ak [Qf 34 6 2,Ql 35 34,Qm 36 1,Q 37 (.call 163 [.t 35,.t 36] [] [(0,13700)]),Qf 38 6 6,Qs 1 38 37] [4,6] [4,6,10905,10906,13200,13700])
 (.seq (.ak [QL 39 7 6,Qs 7 4 39,Qb 5 true] [4,5] [4,10905,10906,13200,13700])
 (.ret)))))))
def fx.m:Fn:={np:=2,body:=fx.b,res:=[.cell 4 true 7,.tmp 5]}
def fx.k(M:Nat→Option Body):Prop:=M 73=some (.code fx.m)∧cE.k M∧bG.k M∧cq.k M∧a7.k M∧iR.k M
def fJ.b:C:= .seq (.ak [Qv 2 0,Qv 3 1,Qb 4 false] [2,3] [2,3])
 (.seq (.ak [Qf 5 0 2,Ql 6 5,Qf 7 0 3,Ql 8 7,Q 9 (.bin .gtr (.t 6) (.t 8)),Qm 10 9,Qg 11 (.bH 0 (.t 2)) 10 false,Qg 12 (.load false 1 (.t 11)) 10 false,
   Qg 13 (.bH 0 (.t 3)) 10 false,Qg 14 (.load false 1 (.t 13)) 10 false,Qg 15 (.bin .eql (.t 12) (.t 14)) 10 false,Qg 16 (.mv (.t 15)) 10 false,Qg 17 (.bH 1 (.t 2)) 16 true,
   Qg 18 (.load false 1 (.t 17)) 16 true,Qg 19 (.bH 1 (.t 3)) 16 true,Qg 20 (.load false 1 (.t 19)) 16 true,Qg 21 (.bin .gtr (.t 18) (.t 20)) 16 true,
   Qg 22 (.pick (.t 16) (.t 21) (kB false)) 10 false,Q 23 (.pick (.t 10) (kB true) (.t 22)),Qm 4 23] [4] [])
 (.ret))
def fJ.m:Fn:={np:=2,body:=fJ.b,res:=[.tmp 4]}
def fJ.k(M:Nat→Option Body):Prop:=M 275=some (.code fJ.m)
def iG.b:C:= .seq (.ak [Qv 3 0,Qv 5 2,Q 6 (.alloc [.int .i64 0,.int .i64 0,.int .i64 0])] [1,3,5,6] [3,5,6])
 (.seq (.ak [Qm 8 1,QL 9 2 5,Q 10 (.build [.int .i64 0,.int .i64 0,.int .i64 0] [(0,1,.t 8),(1,2,.t 9)]),Q 7 (.alloc [.int .i64 0,.int .i64 0,.int .i64 0]),Qs 3 7 10] [3,5,6,7] [3,5,6,7])
 (.seq (.seq (.ak [QL 11 2 5,Qf 12 1 3,QL 13 2 12,Q 14 (.call 275 [.t 11,.t 13] [] []),Q 15 (.not (.t 14)),Qm 16 15,Qg 17 (.load true 3 (.t 7)) 16 false,
   Qg 18 (.call 272 [.t 17] [] []) 16 false,Qg 19 (.not (.t 18)) 16 false,Q 20 (.pick (.t 16) (kB true) (.t 19))] [3,6,7,20] [3,6,7])
 (.cond (.t 20) (.seq (.ak [QL 21 3 3,Qs 3 6 21] [6] [6])
 (.ret)) (.skip)))
 (.seq (.ak [QL 22 3 7,Qs 3 6 22] [6] [6])
 (.ret))))
def iG.m:Fn:={np:=3,body:=iG.b,res:=[.cell 6 true 3]}
def iG.k(M:Nat→Option Body):Prop:=M 240=some (.code iG.m)∧iF.k M∧fJ.k M
def cL.l0:C:= .seq (.ak [Q 25 (.bin .lss (.t 24) (.t 23))] [1,5,7,22,23,24,25] [5,11200])
 (.seq (.cond (.t 25) (.skip) (.exit 0))
 (.seq (.block 1 (.seq (.ak [Qm 26 24,Qa 27 3 22 24,QL 28 3 27,Q 9 (.alloc [.int .i64 0,.int .i64 0,.int .i64 0]),Qm 8 26,Qs 3 9 28] [1,5,7,8,9,22,23,24] [5,9,11200])
 (.seq (.ak [Qm 29 1,Qm 30 8,Q 31 (.bin .shr (.t 29) (.t 30)),Q 32 (.bin .and (.t 31) (kI 1)),Qm 10 32] [1,5,7,8,9,10,22,23,24] [5,9,11200])
 (.seq (.ak [Qf 33 0 9,Ql 34 33,Qm 35 10,Q 36 (.bin .neq (.t 34) (.t 35))] [1,5,7,8,9,10,22,23,24,36] [5,9,11200])
 (.cond (.t 36) (.ak [Qm 37 7,Qm 38 8,QL 39 3 9,Qm 40 10,QL 41 2 5,Q 42 (.call 240 [.t 39,.t 40,.t 41] [] []),Qa 43 3 37 38,Qs 3 43 42] [1,5,7,22,23,24] [5,11200]) (.skip))))))
 (.ak [Q 44 (.bin .add (.t 24) (kI 1)),Qm 24 44] [1,5,7,22,23,24] [5,11200])))
def cL.b:C:= .seq (.ak [Qv 5 2,Q 6 (.nil 3)] [0,1,5] [5])
 (.seq (.ak [Qm 11 0,Q 12 (.call 239 [.t 11] [] [(0,11200)]),Qm 7 12] [0,1,5,7] [5,11200])
 (.seq (.seq (.ak [Qm 13 0,Q 14 (.call 235 [.t 13] [] []),Q 15 (.not (.t 14)),Qm 16 15,Qg 17 (.mv (.t 1)) 16 false,Qg 18 (.call 148 [.t 17] [] []) 16 false,Qg 19 (.not (.t 18)) 16 false,
   Q 20 (.pick (.t 16) (kB true) (.t 19))] [1,5,7,20] [5,11200])
 (.cond (.t 20) (.seq (.ak [Qm 21 7,Qm 6 21] [6] [6,11200])
 (.ret)) (.skip)))
 (.seq (.seq (.ak [Qm 22 7,Q 23 (.len (.t 22)),Qi 24 0] [1,5,7,22,23,24] [5,11200])
 (.block 0 (.loop cL.l0)))
 (.seq (.ak [Qm 45 7,Qm 6 45] [6] [6,11200])
 (.ret)))))
def cL.m:Fn:={np:=3,body:=cL.b,res:=[.tmp 6]}
def cL.k(M:Nat→Option Body):Prop:=M 182=some (.code cL.m)∧fw.k M∧dw.k M∧fZ.k M∧iG.k M
def dD.b:C:= .seq (.ak [Qv 4 0,Qv 7 3,Q 8 (.alloc [.int .i64 0,.str ⟨#[]⟩,.int .i64 0,.int .i64 0,.int .i64 0,.aN 4,.aN 1]),Qb 9 false] [1,2,4,7,8] [4,7,8,11305,11306])
 (.seq (.ak [QL 12 7 4,Q 13 (.call 155 [.t 12] [] [(5,11305),(6,11306)]),Q 10 (.alloc [.int .i64 0,.str ⟨#[]⟩,.int .i64 0,.int .i64 0,.int .i64 0,.aN 4,.aN 1]),Qs 7 10 13] [1,2,4,7,8,10] [4,7,8,10,11305,11306])
 (.seq (.ak [QL 14 7 4,Qm 15 1,Q 16 (.call 72 [.t 14,.t 15] [] []),Qm 11 16] [2,4,7,8,10,11] [4,7,8,10,11305,11306])
 (.seq (.seq (.ak [QL 17 7 4,Q 18 (.call 74 [.t 17] [] []),Q 19 (.not (.t 18)),Qm 20 19,Qg 21 (.mv (.t 11)) 20 false,Qg 22 (.bin .lss (.t 21) (kI 0)) 20 false,
   Q 23 (.pick (.t 20) (kB true) (.t 22)),Qm 24 23,Qg 25 (.mv (.t 2)) 24 false,Qg 26 (.call 148 [.t 25] [] []) 24 false,Qg 27 (.not (.t 26)) 24 false,
   Q 28 (.pick (.t 24) (kB true) (.t 27)),Qm 29 28,Qg 30 (.load true 2 (.t 7)) 29 false,Qg 31 (.call 164 [.t 30] [] []) 29 false,Qg 32 (.not (.t 31)) 29 false,
   Q 33 (.pick (.t 29) (kB true) (.t 32))] [2,4,7,8,10,11,33] [4,7,8,10,11305,11306])
 (.cond (.t 33) (.seq (.ak [QL 34 7 10,Qs 7 8 34,Qb 9 false] [8,9] [8,11305,11306])
 (.ret)) (.skip)))
 (.seq (.gm [Qf 35 5 10,Ql 36 35,Qm 37 11,Qf 38 5 4,Ql 39 38,Qm 40 11,Qa 41 4 39 40,Qf 42 2 41,Ql 43 42,Qm 44 2,QL 45 2 7,Q 46 (.call 182 [.t 43,.t 44,.t 45] [] []),Qa 47 4 36 37,
   Qf 48 2 47,Qs 1 48 46] [[],[0],[],[],[3],[],[3,4,5],[3,4,5,6],[3,4,5,6,7],[],[],[3,4,5,6,7,8,9,10],lr 12,lr 13,lr 14] [8,10] [8,10,11305,11306])
 (.seq (.ak [QL 49 7 10,Qs 7 8 49,Qb 9 true] [8,9] [8,11305,11306])
 (.ret))))))
def dD.m:Fn:={np:=4,body:=dD.b,res:=[.cell 8 true 7,.tmp 9]}
def dD.k(M:Nat→Option Body):Prop:=M 83=some (.code dD.m)∧cE.k M∧bG.k M∧fw.k M∧cq.k M∧fX.k M∧cL.k M
def gF.b:C:= .seq (.ak [Q 2 (.nil 3)] [0] [])
 (.seq (.ak [Q 3 (.bZ 3 0 [.int .i64 0,.int .i64 0,.int .i64 0] []),Qm 4 0,Q 5 (.app 3 24 (.t 3) (.t 4)),Qm 2 5] [2] [2,3,5])
 (.ret))
def gF.m:Fn:={np:=1,body:=gF.b,res:=[.tmp 2]}
def gF.k(M:Nat→Option Body):Prop:=M 241=some (.code gF.m)
def fq.b:C:= .seq (.ak [Qv 1 0,Q 2 (.alloc [.int .i64 0,.int .i64 0,.aN 3,.str ⟨#[]⟩])] [1,2] [1,2,10500])
 (.seq (.ak [Qf 3 2 1,Ql 4 3,Q 5 (.call 241 [.t 4] [] [(0,10500)]),Qf 6 2 1,Qs 1 6 5] [1,2] [1,2,10500])
 (.seq (.ak [QL 7 4 1,Qs 4 2 7] [2] [2,10500])
 (.ret)))
def fq.m:Fn:={np:=1,body:=fq.b,res:=[.cell 2 true 4]}
def fq.k(M:Nat→Option Body):Prop:=M 238=some (.code fq.m)∧gF.k M
def b6.l0:C:= .seq (.seq (.ak [Qm 8 4,Qf 9 5 1,Ql 10 9,Q 11 (.len (.t 10)),Q 12 (.bin .lss (.t 8) (.t 11))] [1,2,3,4,12] [1,2,3,6,24,26,29])
 (.cond (.t 12) (.skip) (.exit 0)))
 (.seq (.block 1 (.gm [Qf 15 5 3,Ql 16 15,Qf 17 5 1,Ql 18 17,Qm 19 4,Qa 20 4 18 19,QL 21 4 20,Q 22 (.call 238 [.t 21] [] []),
   Q 23 (.bZ 4 1 [.int .i64 0,.int .i64 0,.aN 3,.str ⟨#[]⟩] [(0,.t 22)]),Q 24 (.app 4 56 (.t 16) (.t 23)),Qf 25 5 3,Qs 1 25 24] [[],[0],[],[2],[],[2,3,4],[2,3,4,5],[2,3,4,5,6],[2,3,4,5,6,7],lr 9,lr 10,lr 11] [1,2,3,4] [1,2,3,6,24,26,29]))
 (.ak [Qm 13 4,Q 14 (.bin .add (.t 13) (kI 1)),Qm 4 14] [1,2,3,4] [1,2,3,6,24,26,29]))
def b6.b:C:= .seq (.ak [Qv 1 0,Q 2 (.alloc [.int .i64 0,.str ⟨#[]⟩,.int .i64 0,.int .i64 0,.int .i64 0,.aN 4,.aN 1])] [1,2] [1,2,6,24,26,29])
 (.seq (.ak [QL 5 7 1,Q 3 (.alloc [.int .i64 0,.str ⟨#[]⟩,.int .i64 0,.int .i64 0,.int .i64 0,.aN 4,.aN 1]),Qs 7 3 5] [1,2,3] [1,2,3,6,24,26,29])
 (.seq (.ak [Q 6 (.bZ 4 0 [.int .i64 0,.int .i64 0,.aN 3,.str ⟨#[]⟩] []),Qf 7 5 3,Qs 1 7 6] [1,2,3] [1,2,3,6,24,26,29])
 (.seq (.seq (.ak [Qi 4 0] [1,2,3,4] [1,2,3,6,24,26,29])
 (.block 0 (.loop b6.l0)))
 (.seq (.ak [Q 26 (.bZ 1 0 [.int .i64 0] []),Qf 27 6 1,Ql 28 27,Q 29 (.app 1 8 (.t 26) (.t 28)),Qf 30 6 3,Qs 1 30 29] [2,3] [2,3,6,24,26,29])
 (.seq (.ak [QL 31 7 3,Qs 7 2 31] [2] [2,6,24,26,29])
 (.ret))))))
def b6.m:Fn:={np:=1,body:=b6.b,res:=[.cell 2 true 7]}
def b6.k(M:Nat→Option Body):Prop:=M 180=some (.code b6.m)∧fq.k M
def fL.l0:C:= .seq (.seq (.ak [Qm 9 6,Q 10 (.bin .lss (.t 9) (kI 3))] [0,3,5,6,10] [3,8,24])
 (.cond (.t 10) (.skip) (.exit 0)))
 (.seq (.block 1 (.seq (.ak [Qi 7 0] [0,3,5,6,7] [3,8,24])
 (.seq (.seq (.ak [Qm 13 0,Qm 14 6,Q 15 (.rB .u64 (.t 14)),Q 16 (.bin .shr (.t 13) (.t 15)),Q 17 (.bin .rem (.t 16) (kI 2)),Q 18 (.bin .neq (.t 17) (kI 0))] [0,3,5,6,7,18] [3,8,24])
 (.cond (.t 18) (.ak [Qi 7 1] [0,3,5,6,7] [3,8,24]) (.skip)))
 (.ak [Qm 19 5,Qm 20 7,QL 21 2 3,Q 22 (.build [.int .i64 0,.int .i64 0,.int .i64 0] [(0,1,.t 20),(1,2,.t 21)]),
   Q 23 (.bZ 3 1 [.int .i64 0,.int .i64 0,.int .i64 0] [(0,.t 22)]),Q 24 (.app 3 24 (.t 19) (.t 23)),Qm 5 24] [0,3,5,6] [3,8,24]))))
 (.ak [Qm 11 6,Q 12 (.bin .add (.t 11) (kI 1)),Qm 6 12] [0,3,5,6] [3,8,24]))
def fL.b:C:= .seq (.ak [Qv 3 1,Q 4 (.nil 3)] [0,3] [3])
 (.seq (.ak [Q 8 (.bZ 3 0 [.int .i64 0,.int .i64 0,.int .i64 0] []),Qm 5 8] [0,3,5] [3,8,24])
 (.seq (.seq (.ak [Qi 6 0] [0,3,5,6] [3,8,24])
 (.block 0 (.loop fL.l0)))
 (.seq (.ak [Qm 25 5,Qm 4 25] [4] [4,8,24])
 (.ret))))
def fL.m:Fn:={np:=2,body:=fL.b,res:=[.tmp 4]}
def fL.k(M:Nat→Option Body):Prop:=M 181=some (.code fL.m)
def dU.b:C:= .seq (.ak [Qv 5 0,Qv 9 4,Q 10 (.alloc [.int .i64 0,.str ⟨#[]⟩,.int .i64 0,.int .i64 0,.int .i64 0,.aN 4,.aN 1]),Qb 11 false] [1,2,3,5,9,10] [5,9,10,47,11405,11406,15705,15706])
 (.seq (.ak [QL 13 7 5,Q 14 (.call 180 [.t 13] [] [(5,11405),(6,11406)]),Q 12 (.alloc [.int .i64 0,.str ⟨#[]⟩,.int .i64 0,.int .i64 0,.int .i64 0,.aN 4,.aN 1]),Qs 7 12 14] [1,2,3,5,9,10,12] [5,9,10,12,47,11405,11406,15705,15706])
 (.seq (.seq (.ak [QL 15 7 5,Q 16 (.call 88 [.t 15] [] []),Q 17 (.not (.t 16)),Qm 18 17,Qg 19 (.load true 7 (.t 5)) 18 false,Qg 20 (.mv (.t 1)) 18 false,
   Qg 21 (.call 91 [.t 19,.t 20] [] []) 18 false,Qg 22 (.bin .geq (.t 21) (kI 0)) 18 false,Q 23 (.pick (.t 18) (kB true) (.t 22)),Qm 24 23,Qg 25 (.bH 6 (.t 5)) 24 false,
   Qg 26 (.load false 1 (.t 25)) 24 false,Qg 27 (.mv (.t 1)) 24 false,Qg 28 (.call 132 [.t 26,.t 27] [] []) 24 false,Q 29 (.pick (.t 24) (kB true) (.t 28)),Qm 30 29,
   Qg 31 (.mv (.t 2)) 30 false,Qg 32 (.call 98 [.t 31,kI 0,kI 7] [] []) 30 false,Qg 33 (.not (.t 32)) 30 false,Q 34 (.pick (.t 30) (kB true) (.t 33))] [1,2,3,5,9,10,12,34] [5,9,10,12,47,11405,11406,15705,15706])
 (.cond (.t 34) (.seq (.ak [QL 35 7 12,Qs 7 10 35,Qb 11 false] [10,11] [10,47,11405,11406,15705,15706])
 (.ret)) (.skip)))
 (.seq (.gm [Qf 36 5 12,Ql 37 36,Qm 38 1,Qf 39 4 5,Ql 40 39,Qm 41 2,QL 42 2 9,Q 43 (.call 181 [.t 41,.t 42] [] []),Qm 44 3,
   Q 45 (.build [.int .i64 0,.int .i64 0,.aN 3,.str ⟨#[]⟩] [(0,1,.t 38),(1,1,.t 40),(2,1,.t 43),(3,1,.t 44)]),
   Q 46 (.bZ 4 1 [.int .i64 0,.int .i64 0,.aN 3,.str ⟨#[]⟩] [(0,.t 45)]),Q 47 (.app 4 56 (.t 37) (.t 46)),Qf 48 5 12,Qs 1 48 47] [[],[0],[],[],[3],[],[],[5,6],[],[2,3,4,5,6,7,8],[2,3,4,5,6,7,8,9],lr 11,lr 12,lr 13] [5,10,12] [5,10,12,47,11405,11406,15705,15706])
 (.seq (.ak [Qf 49 4 5,Ql 50 49,Q 51 (.bin .add (.t 50) (kI 1)),Qf 52 4 12,Qs 1 52 51] [5,10,12] [5,10,12,47,11405,11406,15705,15706])
 (.seq (.seq (.ak [QL 53 7 12,Q 54 (.call 88 [.t 53] [] []),Q 55 (.not (.t 54))] [5,10,12,55] [5,10,12,47,11405,11406,15705,15706])
 (.cond (.t 55) (.seq (.ak [QL 56 7 5,Q 57 (.call 180 [.t 56] [] [(5,15705),(6,15706)]),Qs 7 10 57,Qb 11 false] [10,11] [10,47,11405,11406,15705,15706])
 (.ret)) (.skip)))
 (.seq (.ak [QL 58 7 12,Qs 7 10 58,Qb 11 true] [10,11] [10,47,11405,11406,15705,15706])
 (.ret)))))))
def dU.m:Fn:={np:=5,body:=dU.b,res:=[.cell 10 true 7,.tmp 11]}
def dU.k(M:Nat→Option Body):Prop:=M 81=some (.code dU.m)∧bB.k M∧bM.k M∧bS.k M∧bf.k M∧b6.k M∧fL.k M
def gL.b:C:= .seq (.ak [Qv 2 0,Qv 3 1,Qb 4 false] [2,3] [2,3])
 (.seq (.seq (.ak [Qf 5 0 2,Ql 6 5,Qf 7 0 3,Ql 8 7,Q 9 (.bin .neq (.t 6) (.t 8))] [2,3,9] [2,3])
 (.cond (.t 9) (.seq (.ak [Qf 10 0 2,Ql 11 10,Qf 12 0 3,Ql 13 12,Q 14 (.bin .gtr (.t 11) (.t 13)),Qm 4 14] [4] [])
 (.ret)) (.skip)))
 (.seq (.ak [Qf 15 1 2,Ql 16 15,Qf 17 1 3,Ql 18 17,Q 19 (.bin .gtr (.t 16) (.t 18)),Qm 4 19] [4] [])
 (.ret)))
def gL.m:Fn:={np:=2,body:=gL.b,res:=[.tmp 4]}
def gL.k(M:Nat→Option Body):Prop:=M 277=some (.code gL.m)
def iE.b:C:= .seq (.ak [Qv 3 0,Qv 5 2,Q 6 (.alloc [.int .i64 0,.int .i64 0,.int .i64 0])] [1,3,5,6] [3,5,6])
 (.seq (.ak [Qm 8 1,QL 9 2 5,Q 10 (.build [.int .i64 0,.int .i64 0,.int .i64 0] [(0,1,.t 8),(1,2,.t 9)]),Q 7 (.alloc [.int .i64 0,.int .i64 0,.int .i64 0]),Qs 3 7 10] [3,5,6,7] [3,5,6,7])
 (.seq (.seq (.ak [QL 11 2 5,Qf 12 1 3,QL 13 2 12,Q 14 (.call 277 [.t 11,.t 13] [] []),Q 15 (.not (.t 14)),Qm 16 15,Qg 17 (.load true 3 (.t 7)) 16 false,
   Qg 18 (.call 276 [.t 17] [] []) 16 false,Qg 19 (.not (.t 18)) 16 false,Q 20 (.pick (.t 16) (kB true) (.t 19))] [3,6,7,20] [3,6,7])
 (.cond (.t 20) (.seq (.ak [QL 21 3 3,Qs 3 6 21] [6] [6])
 (.ret)) (.skip)))
 (.seq (.ak [QL 22 3 7,Qs 3 6 22] [6] [6])
 (.ret))))
def iE.m:Fn:={np:=3,body:=iE.b,res:=[.cell 6 true 3]}
def iE.k(M:Nat→Option Body):Prop:=M 243=some (.code iE.m)∧iD.k M∧gL.k M
def cK.l0:C:= .seq (.seq (.ak [Qm 21 8,Qm 22 7,Q 23 (.len (.t 22)),Q 24 (.bin .lss (.t 21) (.t 23))] [1,5,7,8,24] [5,11100])
 (.cond (.t 24) (.skip) (.exit 0)))
 (.seq (.block 1 (.seq (.ak [Qm 27 1,Qm 28 8,Q 29 (.rB .u64 (.t 28)),Q 30 (.bin .shr (.t 27) (.t 29)),Q 31 (.bin .rem (.t 30) (kI 2)),Qm 9 31] [1,5,7,8,9] [5,11100])
 (.seq (.ak [Qm 32 7,Qm 33 8,Qa 34 3 32 33,Qf 35 0 34,Ql 36 35,Qm 37 9,Q 38 (.bin .neq (.t 36) (.t 37))] [1,5,7,8,9,38] [5,11100])
 (.cond (.t 38) (.gm [Qm 39 7,Qm 40 8,Qm 41 7,Qm 42 8,Qa 43 3 41 42,QL 44 3 43,Qm 45 9,QL 46 2 5,Q 47 (.call 243 [.t 44,.t 45,.t 46] [] []),Qa 48 3 39 40,Qs 3 48 47] [[],[],[],[],[2,3],[2,3,4],[],[],[2,3,4,5,6,7],lr 9,lr 10] [1,5,7,8] [5,11100]) (.skip)))))
 (.ak [Qm 25 8,Q 26 (.bin .add (.t 25) (kI 1)),Qm 8 26] [1,5,7,8] [5,11100]))
def cK.b:C:= .seq (.ak [Qv 5 2,Q 6 (.nil 3)] [0,1,5] [5])
 (.seq (.ak [Qm 10 0,Q 11 (.call 241 [.t 10] [] [(0,11100)]),Qm 7 11] [0,1,5,7] [5,11100])
 (.seq (.seq (.ak [Qm 12 0,Q 13 (.call 242 [.t 12] [] []),Q 14 (.not (.t 13)),Qm 15 14,Qg 16 (.mv (.t 1)) 15 false,Qg 17 (.call 98 [.t 16,kI 0,kI 7] [] []) 15 false,
   Qg 18 (.not (.t 17)) 15 false,Q 19 (.pick (.t 15) (kB true) (.t 18))] [1,5,7,19] [5,11100])
 (.cond (.t 19) (.seq (.ak [Qm 20 7,Qm 6 20] [6] [6,11100])
 (.ret)) (.skip)))
 (.seq (.seq (.ak [Qi 8 0] [1,5,7,8] [5,11100])
 (.block 0 (.loop cK.l0)))
 (.seq (.ak [Qm 49 7,Qm 6 49] [6] [6,11100])
 (.ret)))))
def cK.m:Fn:={np:=3,body:=cK.b,res:=[.tmp 6]}
def cK.k(M:Nat→Option Body):Prop:=M 184=some (.code cK.m)∧bS.k M∧gF.k M∧du.k M∧iE.k M
def dB.b:C:= .seq (.ak [Qv 4 0,Qv 7 3,Q 8 (.alloc [.int .i64 0,.str ⟨#[]⟩,.int .i64 0,.int .i64 0,.int .i64 0,.aN 4,.aN 1]),Qb 9 false] [1,2,4,7,8] [4,7,8,11305,11306])
 (.seq (.ak [QL 12 7 4,Q 13 (.call 180 [.t 12] [] [(5,11305),(6,11306)]),Q 10 (.alloc [.int .i64 0,.str ⟨#[]⟩,.int .i64 0,.int .i64 0,.int .i64 0,.aN 4,.aN 1]),Qs 7 10 13] [1,2,4,7,8,10] [4,7,8,10,11305,11306])
 (.seq (.ak [QL 14 7 4,Qm 15 1,Q 16 (.call 91 [.t 14,.t 15] [] []),Qm 11 16] [2,4,7,8,10,11] [4,7,8,10,11305,11306])
 (.seq (.seq (.ak [QL 17 7 4,Q 18 (.call 88 [.t 17] [] []),Q 19 (.not (.t 18)),Qm 20 19,Qg 21 (.mv (.t 11)) 20 false,Qg 22 (.bin .lss (.t 21) (kI 0)) 20 false,
   Q 23 (.pick (.t 20) (kB true) (.t 22)),Qm 24 23,Qg 25 (.mv (.t 2)) 24 false,Qg 26 (.call 98 [.t 25,kI 0,kI 7] [] []) 24 false,Qg 27 (.not (.t 26)) 24 false,
   Q 28 (.pick (.t 24) (kB true) (.t 27)),Qm 29 28,Qg 30 (.load true 2 (.t 7)) 29 false,Qg 31 (.call 183 [.t 30] [] []) 29 false,Qg 32 (.not (.t 31)) 29 false,
   Q 33 (.pick (.t 29) (kB true) (.t 32))] [2,4,7,8,10,11,33] [4,7,8,10,11305,11306])
 (.cond (.t 33) (.seq (.ak [QL 34 7 10,Qs 7 8 34,Qb 9 false] [8,9] [8,11305,11306])
 (.ret)) (.skip)))
 (.seq (.gm [Qf 35 5 10,Ql 36 35,Qm 37 11,Qf 38 5 4,Ql 39 38,Qm 40 11,Qa 41 4 39 40,Qf 42 2 41,Ql 43 42,Qm 44 2,QL 45 2 7,Q 46 (.call 184 [.t 43,.t 44,.t 45] [] []),Qa 47 4 36 37,
   Qf 48 2 47,Qs 1 48 46] [[],[0],[],[],[3],[],[3,4,5],[3,4,5,6],[3,4,5,6,7],[],[],[3,4,5,6,7,8,9,10],lr 12,lr 13,lr 14] [8,10] [8,10,11305,11306])
 (.seq (.ak [QL 49 7 10,Qs 7 8 49,Qb 9 true] [8,9] [8,11305,11306])
 (.ret))))))
def dB.m:Fn:={np:=4,body:=dB.b,res:=[.cell 8 true 7,.tmp 9]}
def dB.k(M:Nat→Option Body):Prop:=M 84=some (.code dB.m)∧bB.k M∧bM.k M∧bS.k M∧b6.k M∧fV.k M∧cK.k M
def cZ.b:C:= .seq (.ak [Qv 2 0,Q 4 (.alloc [.int .i64 0,.str ⟨#[]⟩,.int .i64 0,.int .i64 0,.int .i64 0,.aN 4,.aN 1]),Qb 5 false] [1,2,4] [2,4,27,32,38,10905,10906,14300])
 (.seq (.ak [QL 8 7 2,Q 9 (.call 180 [.t 8] [] [(5,10905),(6,10906)]),Q 6 (.alloc [.int .i64 0,.str ⟨#[]⟩,.int .i64 0,.int .i64 0,.int .i64 0,.aN 4,.aN 1]),Qs 7 6 9] [1,2,4,6] [2,4,6,27,32,38,10905,10906,14300])
 (.seq (.ak [QL 10 7 2,Qm 11 1,Q 12 (.call 91 [.t 10,.t 11] [] []),Qm 7 12] [1,2,4,6,7] [2,4,6,27,32,38,10905,10906,14300])
 (.seq (.seq (.ak [QL 13 7 2,Q 14 (.call 88 [.t 13] [] []),Q 15 (.not (.t 14)),Qm 16 15,Qg 17 (.mv (.t 7)) 16 false,Qg 18 (.bin .lss (.t 17) (kI 0)) 16 false,
   Q 19 (.pick (.t 16) (kB true) (.t 18)),Qm 20 19,Qg 21 (.bH 6 (.t 2)) 20 false,Qg 22 (.load false 1 (.t 21)) 20 false,Qg 23 (.len (.t 22)) 20 false,
   Qg 24 (.bin .geq (.t 23) (kI 40)) 20 false,Q 25 (.pick (.t 20) (kB true) (.t 24))] [1,2,4,6,7,25] [2,4,6,27,32,38,10905,10906,14300])
 (.cond (.t 25) (.seq (.ak [QL 26 7 6,Qs 7 4 26,Qb 5 false] [4,5] [4,27,32,38,10905,10906,14300])
 (.ret)) (.skip)))
 (.seq (.gm [Q 27 (.bZ 4 0 [.int .i64 0,.int .i64 0,.aN 3,.str ⟨#[]⟩] []),Qf 28 5 6,Ql 29 28,Qm 30 7,Q 31 (.vn 4 (.t 29) none (some (.t 30)) none),
   Q 32 (.app 4 56 (.t 27) (.t 31)),Qf 33 5 6,Ql 34 33,Qm 35 7,Q 36 (.bin .add (.t 35) (kI 1)),Q 37 (.vn 4 (.t 34) (some (.t 36)) none none),Q 38 (.app 4 56 (.t 32) (.t 37)),
   Qf 39 5 6,Qs 1 39 38] [[],[],[1],[],[1,2,3],lr 5,[],[6],[],[8],[6,7,8,9],lr 11,lr 12,lr 13] [1,2,4,6] [2,4,6,27,32,38,10905,10906,14300])
 (.seq (.ak [Qf 40 6 2,Ql 41 40,Qm 42 1,Q 43 (.call 133 [.t 41,.t 42] [] [(0,14300)]),Qf 44 6 6,Qs 1 44 43] [4,6] [4,6,27,32,38,10905,10906,14300])
 (.seq (.ak [QL 45 7 6,Qs 7 4 45,Qb 5 true] [4,5] [4,27,32,38,10905,10906,14300])
 (.ret)))))))
def cZ.m:Fn:={np:=2,body:=cZ.b,res:=[.cell 4 true 7,.tmp 5]}
def cZ.k(M:Nat→Option Body):Prop:=M 86=some (.code cZ.m)∧bB.k M∧bM.k M∧bX.k M∧b6.k M
def dj.l0:C:= .seq (.seq (.ak [Qm 6 5,Qf 7 2 2,Ql 8 7,Q 9 (.len (.t 8)),Q 10 (.bin .lss (.t 6) (.t 9))] [1,2,5,10] [2])
 (.cond (.t 10) (.skip) (.exit 0)))
 (.seq (.block 1 (.seq (.ak [Qf 13 2 2,Ql 14 13,Qm 15 5,Qa 16 7 14 15,Qf 17 0 16,Ql 18 17,Qm 19 1,Q 20 (.bin .eql (.t 18) (.t 19))] [1,2,5,20] [2])
 (.cond (.t 20) (.seq (.ak [Qm 21 5,Qm 4 21] [4] [])
 (.ret)) (.skip))))
 (.ak [Qm 11 5,Q 12 (.bin .add (.t 11) (kI 1)),Qm 5 12] [1,2,5] [2]))
def dj.b:C:= .seq (.ak [Qv 2 0,Qi 4 0] [1,2] [2])
 (.seq (.seq (.ak [Qi 5 0] [1,2,5] [2])
 (.block 0 (.loop dj.l0)))
 (.seq (.ak [Qi 4 (-1)] [4] [])
 (.ret)))
def dj.m:Fn:={np:=2,body:=dj.b,res:=[.tmp 4]}
def dj.k(M:Nat→Option Body):Prop:=M 196=some (.code dj.m)
def ei.l0:C:= .seq (.seq (.ak [Qm 16 5,Qf 17 2 2,Ql 18 17,Q 19 (.len (.t 18)),Q 20 (.bin .lss (.t 16) (.t 19))] [1,2,5,20] [2])
 (.cond (.t 20) (.skip) (.exit 0)))
 (.seq (.block 1 (.seq (.ak [Qf 23 2 2,Ql 24 23,Qm 25 5,Qa 26 7 24 25,QL 27 7 26,Qm 28 1,Q 29 (.call 91 [.t 27,.t 28] [] []),Q 30 (.bin .geq (.t 29) (kI 0)),Qm 31 30,Qg 32 (.bH 2 (.t 2)) 31 false,
   Qg 33 (.load false 1 (.t 32)) 31 false,Qg 34 (.mv (.t 5)) 31 false,Qg 35 (.kL 7 (.t 33) (.t 34)) 31 false,Qg 36 (.bH 6 (.t 35)) 31 false,
   Qg 37 (.load false 1 (.t 36)) 31 false,Qg 38 (.mv (.t 1)) 31 false,Qg 39 (.call 132 [.t 37,.t 38] [] []) 31 false,Q 40 (.pick (.t 31) (kB true) (.t 39))] [1,2,5,40] [2])
 (.cond (.t 40) (.seq (.ak [Qb 4 true] [4] [])
 (.ret)) (.skip))))
 (.ak [Qm 21 5,Q 22 (.bin .add (.t 21) (kI 1)),Qm 5 22] [1,2,5] [2]))
def ei.b:C:= .seq (.ak [Qv 2 0,Qb 4 false] [1,2] [2])
 (.seq (.seq (.ak [QL 6 4 2,Qm 7 1,Q 8 (.call 196 [.t 6,.t 7] [] []),Q 9 (.bin .geq (.t 8) (kI 0)),Qm 10 9,Qg 11 (.bH 3 (.t 2)) 10 false,Qg 12 (.load false 1 (.t 11)) 10 false,
   Qg 13 (.mv (.t 1)) 10 false,Qg 14 (.call 132 [.t 12,.t 13] [] []) 10 false,Q 15 (.pick (.t 10) (kB true) (.t 14))] [1,2,15] [2])
 (.cond (.t 15) (.seq (.ak [Qb 4 true] [4] [])
 (.ret)) (.skip)))
 (.seq (.seq (.ak [Qi 5 0] [1,2,5] [2])
 (.block 0 (.loop ei.l0)))
 (.seq (.ak [Qb 4 false] [4] [])
 (.ret))))
def ei.m:Fn:={np:=2,body:=ei.b,res:=[.tmp 4]}
def ei.k(M:Nat→Option Body):Prop:=M 300=some (.code ei.m)∧bM.k M∧bf.k M∧dj.k M
def dG.b:C:= .seq (.ak [Qv 1 0,Q 2 (.alloc [.int .i64 0,.int .i64 0])] [1,2] [1,2])
 (.seq (.ak [Qf 3 1 1,Ql 4 3,Q 5 (.bin .add (.t 4) (kI 1)),Qf 6 0 1,Ql 7 6,Q 8 (.build [.int .i64 0,.int .i64 0] [(0,1,.t 5),(1,1,.t 7)]),Qs 2 2 8] [2] [2])
 (.ret))
def dG.m:Fn:={np:=1,body:=dG.b,res:=[.cell 2 true 2]}
def dG.k(M:Nat→Option Body):Prop:=M 301=some (.code dG.m)
def cj.l0:C:= .seq (.seq (.ak [Qm 8 4,Qf 9 2 1,Ql 10 9,Q 11 (.len (.t 10)),Q 12 (.bin .lss (.t 8) (.t 11))] [1,2,3,4,12] [1,2,3,6,24,26,29])
 (.cond (.t 12) (.skip) (.exit 0)))
 (.seq (.block 1 (.gm [Qf 15 2 3,Ql 16 15,Qf 17 2 1,Ql 18 17,Qm 19 4,Qa 20 7 18 19,QL 21 7 20,Q 22 (.call 180 [.t 21] [] []),
   Q 23 (.bZ 7 1 [.int .i64 0,.str ⟨#[]⟩,.int .i64 0,.int .i64 0,.int .i64 0,.aN 4,.aN 1] [(0,.t 22)]),Q 24 (.app 7 96 (.t 16) (.t 23)),Qf 25 2 3,Qs 1 25 24] [[],[0],[],[2],[],[2,3,4],[2,3,4,5],[2,3,4,5,6],[2,3,4,5,6,7],lr 9,lr 10,lr 11] [1,2,3,4] [1,2,3,6,24,26,29]))
 (.ak [Qm 13 4,Q 14 (.bin .add (.t 13) (kI 1)),Qm 4 14] [1,2,3,4] [1,2,3,6,24,26,29]))
def cj.b:C:= .seq (.ak [Qv 1 0,Q 2 (.alloc [.int .i64 0,.int .i64 0,.aN 7,.aN 1])] [1,2] [1,2,6,24,26,29])
 (.seq (.ak [QL 5 4 1,Q 3 (.alloc [.int .i64 0,.int .i64 0,.aN 7,.aN 1]),Qs 4 3 5] [1,2,3] [1,2,3,6,24,26,29])
 (.seq (.ak [Q 6 (.bZ 7 0 [.int .i64 0,.str ⟨#[]⟩,.int .i64 0,.int .i64 0,.int .i64 0,.aN 4,.aN 1] []),Qf 7 2 3,Qs 1 7 6] [1,2,3] [1,2,3,6,24,26,29])
 (.seq (.seq (.ak [Qi 4 0] [1,2,3,4] [1,2,3,6,24,26,29])
 (.block 0 (.loop cj.l0)))
 (.seq (.ak [Q 26 (.bZ 1 0 [.int .i64 0] []),Qf 27 3 1,Ql 28 27,Q 29 (.app 1 8 (.t 26) (.t 28)),Qf 30 3 3,Qs 1 30 29] [2,3] [2,3,6,24,26,29])
 (.seq (.ak [QL 31 4 3,Qs 4 2 31] [2] [2,6,24,26,29])
 (.ret))))))
def cj.m:Fn:={np:=1,body:=cj.b,res:=[.cell 2 true 4]}
def cj.k(M:Nat→Option Body):Prop:=M 219=some (.code cj.m)∧b6.k M
def bT.l0:C:= .seq (.seq (.ak [Qm 37 10,Qf 38 2 3,Ql 39 38,Q 40 (.len (.t 39)),Q 41 (.bin .lss (.t 37) (.t 40))] [1,3,6,8,9,10,41] [3,6,8,9,30,61,67,93,12702,12703,12902,12903,20302,20303])
 (.cond (.t 41) (.skip) (.exit 0)))
 (.seq (.block 1 (.seq (.ak [Qf 44 2 3,Ql 45 44,Qm 46 10,Qa 47 7 45 46,Qf 48 0 47,Ql 49 48,Qm 50 1,Q 51 (.bin .lss (.t 49) (.t 50))] [1,3,6,8,9,10,51] [3,6,8,9,30,61,67,93,12702,12703,12902,12903,20302,20303])
 (.cond (.t 51) (.gm [Qf 52 2 8,Ql 53 52,Qf 54 2 3,Ql 55 54,Qm 56 10,Qa 57 7 55 56,QL 58 7 57,Q 59 (.call 180 [.t 58] [] []),
   Q 60 (.bZ 7 1 [.int .i64 0,.str ⟨#[]⟩,.int .i64 0,.int .i64 0,.int .i64 0,.aN 4,.aN 1] [(0,.t 59)]),Q 61 (.app 7 96 (.t 53) (.t 60)),Qf 62 2 8,Qs 1 62 61] [[],[0],[],[2],[],[2,3,4],[2,3,4,5],[2,3,4,5,6],[2,3,4,5,6,7],lr 9,lr 10,lr 11] [1,3,6,8,9,10] [3,6,8,9,30,61,67,93,12702,12703,12902,12903,20302,20303]) (.skip))))
 (.ak [Qm 42 10,Q 43 (.bin .add (.t 42) (kI 1)),Qm 10 43] [1,3,6,8,9,10] [3,6,8,9,30,61,67,93,12702,12703,12902,12903,20302,20303]))
def bT.l1:C:= .seq (.seq (.ak [Qm 69 11,Qf 70 2 3,Ql 71 70,Q 72 (.len (.t 71)),Q 73 (.bin .lss (.t 69) (.t 72))] [1,3,6,8,11,73] [3,6,8,30,61,67,93,12702,12703,12902,12903,20302,20303])
 (.cond (.t 73) (.skip) (.exit 2)))
 (.seq (.block 3 (.seq (.ak [Qf 76 2 3,Ql 77 76,Qm 78 11,Qa 79 7 77 78,Qf 80 0 79,Ql 81 80,Qm 82 1,Q 83 (.bin .gtr (.t 81) (.t 82))] [1,3,6,8,11,83] [3,6,8,30,61,67,93,12702,12703,12902,12903,20302,20303])
 (.cond (.t 83) (.gm [Qf 84 2 8,Ql 85 84,Qf 86 2 3,Ql 87 86,Qm 88 11,Qa 89 7 87 88,QL 90 7 89,Q 91 (.call 180 [.t 90] [] []),
   Q 92 (.bZ 7 1 [.int .i64 0,.str ⟨#[]⟩,.int .i64 0,.int .i64 0,.int .i64 0,.aN 4,.aN 1] [(0,.t 91)]),Q 93 (.app 7 96 (.t 85) (.t 92)),Qf 94 2 8,Qs 1 94 93] [[],[0],[],[2],[],[2,3,4],[2,3,4,5],[2,3,4,5,6],[2,3,4,5,6,7],lr 9,lr 10,lr 11] [1,3,6,8,11] [3,6,8,30,61,67,93,12702,12703,12902,12903,20302,20303]) (.skip))))
 (.ak [Qm 74 11,Q 75 (.bin .add (.t 74) (kI 1)),Qm 11 75] [1,3,6,8,11] [3,6,8,30,61,67,93,12702,12703,12902,12903,20302,20303]))
def bT.b:C:= .seq (.ak [Qv 3 0,Q 6 (.alloc [.int .i64 0,.int .i64 0,.aN 7,.aN 1]),Qb 7 false] [1,2,3,6] [3,6,30,61,67,93,12702,12703,12902,12903,20302,20303])
 (.seq (.seq (.ak [QL 12 4 3,Q 13 (.call 149 [.t 12] [] []),Q 14 (.not (.t 13)),Qm 15 14,Qg 16 (.load true 4 (.t 3)) 15 false,Qg 17 (.mv (.t 1)) 15 false,
   Qg 18 (.call 300 [.t 16,.t 17] [] []) 15 false,Q 19 (.pick (.t 15) (kB true) (.t 18)),Qm 20 19,Qg 21 (.load true 4 (.t 3)) 20 false,Qg 22 (.mv (.t 2)) 20 false,
   Qg 23 (.call 226 [.t 21,.t 22] [] []) 20 false,Qg 24 (.bin .geq (.t 23) (kI 0)) 20 false,Q 25 (.pick (.t 20) (kB true) (.t 24))] [1,2,3,6,25] [3,6,30,61,67,93,12702,12703,12902,12903,20302,20303])
 (.cond (.t 25) (.seq (.ak [QL 26 4 3,Q 27 (.call 219 [.t 26] [] [(2,12702),(3,12703)]),Qs 4 6 27,Qb 7 false] [6,7] [6,30,61,67,93,12702,12703,12902,12903,20302,20303])
 (.ret)) (.skip)))
 (.seq (.ak [QL 28 4 3,Q 29 (.call 219 [.t 28] [] [(2,12902),(3,12903)]),Q 8 (.alloc [.int .i64 0,.int .i64 0,.aN 7,.aN 1]),Qs 4 8 29] [1,2,3,6,8] [3,6,8,30,61,67,93,12702,12703,12902,12903,20302,20303])
 (.seq (.ak [Q 30 (.bZ 7 0 [.int .i64 0,.str ⟨#[]⟩,.int .i64 0,.int .i64 0,.int .i64 0,.aN 4,.aN 1] []),Qf 31 2 8,Qs 1 31 30] [1,2,3,6,8] [3,6,8,30,61,67,93,12702,12703,12902,12903,20302,20303])
 (.seq (.ak [Qm 32 1,Qm 33 2,QL 34 4 3,Q 35 (.call 301 [.t 34] [] []),
   Q 36 (.build [.int .i64 0,.str ⟨#[]⟩,.int .i64 0,.int .i64 0,.int .i64 0,.aN 4,.aN 1] [(0,1,.t 32),(1,1,.t 33),(2,2,.t 35),(4,1,kI 1)]),
   Q 9 (.alloc [.int .i64 0,.str ⟨#[]⟩,.int .i64 0,.int .i64 0,.int .i64 0,.aN 4,.aN 1]),Qs 7 9 36] [1,3,6,8,9] [3,6,8,9,30,61,67,93,12702,12703,12902,12903,20302,20303])
 (.seq (.seq (.ak [Qi 10 0] [1,3,6,8,9,10] [3,6,8,9,30,61,67,93,12702,12703,12902,12903,20302,20303])
 (.block 0 (.loop bT.l0)))
 (.seq (.ak [Qf 63 2 8,Ql 64 63,QL 65 7 9,Q 66 (.bZ 7 1 [.int .i64 0,.str ⟨#[]⟩,.int .i64 0,.int .i64 0,.int .i64 0,.aN 4,.aN 1] [(0,.t 65)]),Q 67 (.app 7 96 (.t 64) (.t 66)),
   Qf 68 2 8,Qs 1 68 67] [1,3,6,8] [3,6,8,30,61,67,93,12702,12703,12902,12903,20302,20303])
 (.seq (.seq (.ak [Qi 11 0] [1,3,6,8,11] [3,6,8,30,61,67,93,12702,12703,12902,12903,20302,20303])
 (.block 2 (.loop bT.l1)))
 (.seq (.ak [Qf 95 1 3,Ql 96 95,Q 97 (.bin .add (.t 96) (kI 1)),Qf 98 1 8,Qs 1 98 97] [3,6,8] [3,6,8,30,61,67,93,12702,12703,12902,12903,20302,20303])
 (.seq (.seq (.ak [QL 99 4 8,Q 100 (.call 149 [.t 99] [] []),Q 101 (.not (.t 100))] [3,6,8,101] [3,6,8,30,61,67,93,12702,12703,12902,12903,20302,20303])
 (.cond (.t 101) (.seq (.ak [QL 102 4 3,Q 103 (.call 219 [.t 102] [] [(2,20302),(3,20303)]),Qs 4 6 103,Qb 7 false] [6,7] [6,30,61,67,93,12702,12703,12902,12903,20302,20303])
 (.ret)) (.skip)))
 (.seq (.ak [QL 104 4 8,Qs 4 6 104,Qb 7 true] [6,7] [6,30,61,67,93,12702,12703,12902,12903,20302,20303])
 (.ret)))))))))))
def bT.m:Fn:={np:=3,body:=bT.b,res:=[.cell 6 true 4,.tmp 7]}
def bT.k(M:Nat→Option Body):Prop:=M 278=some (.code bT.m)∧aI.k M∧b6.k M∧cj.k M∧cz.k M∧ei.k M∧dG.k M
def cF.b:C:= .seq (.ak [Qv 3 0,Q 6 (.alloc [.int .i64 0,.int .i64 0,.aN 7,.aN 1]),Qb 7 false] [1,2,3,6] [3,6,11102,11103,15002,15003])
 (.seq (.ak [QL 10 4 3,Q 11 (.call 219 [.t 10] [] [(2,11102),(3,11103)]),Q 8 (.alloc [.int .i64 0,.int .i64 0,.aN 7,.aN 1]),Qs 4 8 11] [1,2,3,6,8] [3,6,8,11102,11103,15002,15003])
 (.seq (.ak [QL 12 4 3,Qm 13 1,Q 14 (.call 196 [.t 12,.t 13] [] []),Qm 9 14] [2,3,6,8,9] [3,6,8,11102,11103,15002,15003])
 (.seq (.seq (.ak [QL 15 4 3,Q 16 (.call 149 [.t 15] [] []),Q 17 (.not (.t 16)),Qm 18 17,Qg 19 (.mv (.t 9)) 18 false,Qg 20 (.bin .lss (.t 19) (kI 0)) 18 false,
   Q 21 (.pick (.t 18) (kB true) (.t 20)),Qm 22 21,Qg 23 (.load true 4 (.t 3)) 22 false,Qg 24 (.mv (.t 2)) 22 false,Qg 25 (.call 226 [.t 23,.t 24] [] []) 22 false,
   Qg 26 (.bin .geq (.t 25) (kI 0)) 22 false,Q 27 (.pick (.t 22) (kB true) (.t 26))] [2,3,6,8,9,27] [3,6,8,11102,11103,15002,15003])
 (.cond (.t 27) (.seq (.ak [QL 28 4 8,Qs 4 6 28,Qb 7 false] [6,7] [6,11102,11103,15002,15003])
 (.ret)) (.skip)))
 (.seq (.ak [Qf 29 2 8,Ql 30 29,Qm 31 9,Qm 32 2,Qa 33 7 30 31,Qf 34 1 33,Qs 1 34 32] [3,6,8,9] [3,6,8,11102,11103,15002,15003])
 (.seq (.gm [Qf 35 2 8,Ql 36 35,Qm 37 9,QL 38 4 3,Q 39 (.call 301 [.t 38] [] []),Qa 40 7 36 37,Qf 41 2 40,Qs 2 41 39] [[],[0],[],[],[3],lr 5,lr 6,lr 7] [3,6,8] [3,6,8,11102,11103,15002,15003])
 (.seq (.ak [Qf 42 1 3,Ql 43 42,Q 44 (.bin .add (.t 43) (kI 1)),Qf 45 1 8,Qs 1 45 44] [3,6,8] [3,6,8,11102,11103,15002,15003])
 (.seq (.seq (.ak [QL 46 4 8,Q 47 (.call 149 [.t 46] [] []),Q 48 (.not (.t 47))] [3,6,8,48] [3,6,8,11102,11103,15002,15003])
 (.cond (.t 48) (.seq (.ak [QL 49 4 3,Q 50 (.call 219 [.t 49] [] [(2,15002),(3,15003)]),Qs 4 6 50,Qb 7 false] [6,7] [6,11102,11103,15002,15003])
 (.ret)) (.skip)))
 (.seq (.ak [QL 51 4 8,Qs 4 6 51,Qb 7 true] [6,7] [6,11102,11103,15002,15003])
 (.ret)))))))))
def cF.m:Fn:={np:=3,body:=cF.b,res:=[.cell 6 true 4,.tmp 7]}
def cF.k(M:Nat→Option Body):Prop:=M 282=some (.code cF.m)∧aI.k M∧dj.k M∧cj.k M∧cz.k M∧dG.k M
def dv.b:C:= .seq (.ak [Qv 2 0,Q 4 (.alloc [.int .i64 0,.int .i64 0,.aN 7,.aN 1]),Qb 5 false] [1,2,4] [2,4,27,32,38,10902,10903,14300])
 (.seq (.ak [QL 8 4 2,Q 9 (.call 219 [.t 8] [] [(2,10902),(3,10903)]),Q 6 (.alloc [.int .i64 0,.int .i64 0,.aN 7,.aN 1]),Qs 4 6 9] [1,2,4,6] [2,4,6,27,32,38,10902,10903,14300])
 (.seq (.ak [QL 10 4 2,Qm 11 1,Q 12 (.call 196 [.t 10,.t 11] [] []),Qm 7 12] [1,2,4,6,7] [2,4,6,27,32,38,10902,10903,14300])
 (.seq (.seq (.ak [QL 13 4 2,Q 14 (.call 149 [.t 13] [] []),Q 15 (.not (.t 14)),Qm 16 15,Qg 17 (.mv (.t 7)) 16 false,Qg 18 (.bin .lss (.t 17) (kI 0)) 16 false,
   Q 19 (.pick (.t 16) (kB true) (.t 18)),Qm 20 19,Qg 21 (.bH 3 (.t 2)) 20 false,Qg 22 (.load false 1 (.t 21)) 20 false,Qg 23 (.len (.t 22)) 20 false,
   Qg 24 (.bin .geq (.t 23) (kI 20)) 20 false,Q 25 (.pick (.t 20) (kB true) (.t 24))] [1,2,4,6,7,25] [2,4,6,27,32,38,10902,10903,14300])
 (.cond (.t 25) (.seq (.ak [QL 26 4 6,Qs 4 4 26,Qb 5 false] [4,5] [4,27,32,38,10902,10903,14300])
 (.ret)) (.skip)))
 (.seq (.gm [Q 27 (.bZ 7 0 [.int .i64 0,.str ⟨#[]⟩,.int .i64 0,.int .i64 0,.int .i64 0,.aN 4,.aN 1] []),Qf 28 2 6,Ql 29 28,Qm 30 7,
   Q 31 (.vn 7 (.t 29) none (some (.t 30)) none),Q 32 (.app 7 96 (.t 27) (.t 31)),Qf 33 2 6,Ql 34 33,Qm 35 7,Q 36 (.bin .add (.t 35) (kI 1)),
   Q 37 (.vn 7 (.t 34) (some (.t 36)) none none),Q 38 (.app 7 96 (.t 32) (.t 37)),Qf 39 2 6,Qs 1 39 38] [[],[],[1],[],[1,2,3],lr 5,[],[6],[],[8],[6,7,8,9],lr 11,lr 12,lr 13] [1,2,4,6] [2,4,6,27,32,38,10902,10903,14300])
 (.seq (.ak [Qf 40 3 2,Ql 41 40,Qm 42 1,Q 43 (.call 133 [.t 41,.t 42] [] [(0,14300)]),Qf 44 3 6,Qs 1 44 43] [4,6] [4,6,27,32,38,10902,10903,14300])
 (.seq (.ak [QL 45 4 6,Qs 4 4 45,Qb 5 true] [4,5] [4,27,32,38,10902,10903,14300])
 (.ret)))))))
def dv.m:Fn:={np:=2,body:=dv.b,res:=[.cell 4 true 4,.tmp 5]}
def dv.k(M:Nat→Option Body):Prop:=M 283=some (.code dv.m)∧bX.k M∧aI.k M∧dj.k M∧cj.k M
def dX.b:C:= .seq (.ak [Qv 3 0,Qv 5 2,Q 6 (.alloc [.int .i64 0,.int .i64 0,.aN 7,.aN 1]),Qb 7 false] [1,3,5,6] [3,5,6,11002,11003,12402,12403])
 (.seq (.ak [QL 9 4 3,Q 10 (.call 219 [.t 9] [] [(2,11002),(3,11003)]),Q 8 (.alloc [.int .i64 0,.int .i64 0,.aN 7,.aN 1]),Qs 4 8 10] [1,3,5,6,8] [3,5,6,8,11002,11003,12402,12403])
 (.seq (.ak [Qf 11 2 8,Ql 12 11,Qm 13 1,QL 14 7 5,Qa 15 7 12 13,Qs 7 15 14] [3,6,8] [3,6,8,11002,11003,12402,12403])
 (.seq (.ak [Qf 16 1 3,Ql 17 16,Q 18 (.bin .add (.t 17) (kI 1)),Qf 19 1 8,Qs 1 19 18] [3,6,8] [3,6,8,11002,11003,12402,12403])
 (.seq (.seq (.ak [QL 20 4 8,Q 21 (.call 149 [.t 20] [] []),Q 22 (.not (.t 21))] [3,6,8,22] [3,6,8,11002,11003,12402,12403])
 (.cond (.t 22) (.seq (.ak [QL 23 4 3,Q 24 (.call 219 [.t 23] [] [(2,12402),(3,12403)]),Qs 4 6 24,Qb 7 false] [6,7] [6,11002,11003,12402,12403])
 (.ret)) (.skip)))
 (.seq (.ak [QL 25 4 8,Qs 4 6 25,Qb 7 true] [6,7] [6,11002,11003,12402,12403])
 (.ret))))))
def dX.m:Fn:={np:=3,body:=dX.b,res:=[.cell 6 true 4,.tmp 7]}
def dX.k(M:Nat→Option Body):Prop:=M 302=some (.code dX.m)∧aI.k M∧cj.k M
def dq.b:C:= .seq (.ak [Qv 5 0,Q 10 (.alloc [.int .i64 0,.int .i64 0,.aN 7,.aN 1]),Qb 11 false] [1,2,3,4,5,10] [5,10,13102,13103,14902,14903,15302,15303])
 (.seq (.ak [QL 15 4 5,Qm 16 1,Q 17 (.call 196 [.t 15,.t 16] [] []),Qm 12 17] [2,3,4,5,10,12] [5,10,13102,13103,14902,14903,15302,15303])
 (.seq (.seq (.ak [QL 18 4 5,Q 19 (.call 149 [.t 18] [] []),Q 20 (.not (.t 19)),Qm 21 20,Qg 22 (.load true 4 (.t 5)) 21 false,Qg 23 (.mv (.t 2)) 21 false,
   Qg 24 (.call 300 [.t 22,.t 23] [] []) 21 false,Q 25 (.pick (.t 21) (kB true) (.t 24)),Qm 26 25,Qg 27 (.mv (.t 12)) 26 false,Qg 28 (.bin .lss (.t 27) (kI 0)) 26 false,
   Q 29 (.pick (.t 26) (kB true) (.t 28))] [2,3,4,5,10,12,29] [5,10,13102,13103,14902,14903,15302,15303])
 (.cond (.t 29) (.seq (.ak [QL 30 4 5,Q 31 (.call 219 [.t 30] [] [(2,13102),(3,13103)]),Qs 4 10 31,Qb 11 false] [10,11] [10,13102,13103,14902,14903,15302,15303])
 (.ret)) (.skip)))
 (.seq (.gm [Qf 33 2 5,Ql 34 33,Qm 35 12,Qa 36 7 34 35,QL 37 7 36,Qm 38 2,Qm 39 3,Qm 40 4,QL 41 4 5,Q 42 (.call 301 [.t 41] [] []),
   Q 43 (.call 81 [.t 37,.t 38,.t 39,.t 40,.t 42] [] []),Qm 32 43,Qx 44 0 32,Qx 45 1 32,
   Q 13 (.alloc [.int .i64 0,.str ⟨#[]⟩,.int .i64 0,.int .i64 0,.int .i64 0,.aN 4,.aN 1]),Qs 7 13 44,Qm 14 45] [[],[0],[],[0,1,2],lr 4,[],[],[],[],[8],lr 10,lr 11,lr 12,lr 12,[],lr 13++[14],lr 16] [5,10,12,13,14] [5,10,13,13102,13103,14902,14903,15302,15303])
 (.seq (.seq (.ak [Qm 46 14,Q 47 (.not (.t 46))] [5,10,12,13,47] [5,10,13,13102,13103,14902,14903,15302,15303])
 (.cond (.t 47) (.seq (.ak [QL 48 4 5,Q 49 (.call 219 [.t 48] [] [(2,14902),(3,14903)]),Qs 4 10 49,Qb 11 false] [10,11] [10,13102,13103,14902,14903,15302,15303])
 (.ret)) (.skip)))
 (.seq (.ak [QL 50 4 5,Qm 51 12,QL 52 7 13,Q 53 (.call 302 [.t 50,.t 51,.t 52] [] [(2,15302),(3,15303)]),Qx 54 0 53,Qx 55 1 53,Qs 4 10 54,Qm 11 55] [10,11] [10,13102,13103,14902,14903,15302,15303])
 (.ret))))))
def dq.m:Fn:={np:=5,body:=dq.b,res:=[.cell 10 true 4,.tmp 11]}
def dq.k(M:Nat→Option Body):Prop:=M 279=some (.code dq.m)∧dU.k M∧aI.k M∧dj.k M∧cj.k M∧ei.k M∧dG.k M∧dX.k M
def dg.b:C:= .seq (.ak [Qv 4 0,Q 8 (.alloc [.int .i64 0,.int .i64 0,.aN 7,.aN 1]),Qb 9 false] [1,2,3,4,8] [4,8,12402,12403,14102,14103,14502,14503])
 (.seq (.ak [QL 13 4 4,Qm 14 1,Q 15 (.call 196 [.t 13,.t 14] [] []),Qm 10 15] [2,3,4,8,10] [4,8,12402,12403,14102,14103,14502,14503])
 (.seq (.seq (.ak [QL 16 4 4,Q 17 (.call 149 [.t 16] [] []),Q 18 (.not (.t 17)),Qm 19 18,Qg 20 (.mv (.t 10)) 19 false,Qg 21 (.bin .lss (.t 20) (kI 0)) 19 false,
   Q 22 (.pick (.t 19) (kB true) (.t 21))] [2,3,4,8,10,22] [4,8,12402,12403,14102,14103,14502,14503])
 (.cond (.t 22) (.seq (.ak [QL 23 4 4,Q 24 (.call 219 [.t 23] [] [(2,12402),(3,12403)]),Qs 4 8 24,Qb 9 false] [8,9] [8,12402,12403,14102,14103,14502,14503])
 (.ret)) (.skip)))
 (.seq (.gm [Qf 26 2 4,Ql 27 26,Qm 28 10,Qa 29 7 27 28,QL 30 7 29,Qm 31 2,Qm 32 3,QL 33 4 4,Q 34 (.call 301 [.t 33] [] []),Q 35 (.call 84 [.t 30,.t 31,.t 32,.t 34] [] []),Qm 25 35,
   Qx 36 0 25,Qx 37 1 25,Q 11 (.alloc [.int .i64 0,.str ⟨#[]⟩,.int .i64 0,.int .i64 0,.int .i64 0,.aN 4,.aN 1]),Qs 7 11 36,Qm 12 37] [[],[0],[],[0,1,2],lr 4,[],[],[],[7],lr 9,lr 10,lr 11,lr 11,[],lr 12++[13],lr 15] [4,8,10,11,12] [4,8,11,12402,12403,14102,14103,14502,14503])
 (.seq (.seq (.ak [Qm 38 12,Q 39 (.not (.t 38))] [4,8,10,11,39] [4,8,11,12402,12403,14102,14103,14502,14503])
 (.cond (.t 39) (.seq (.ak [QL 40 4 4,Q 41 (.call 219 [.t 40] [] [(2,14102),(3,14103)]),Qs 4 8 41,Qb 9 false] [8,9] [8,12402,12403,14102,14103,14502,14503])
 (.ret)) (.skip)))
 (.seq (.ak [QL 42 4 4,Qm 43 10,QL 44 7 11,Q 45 (.call 302 [.t 42,.t 43,.t 44] [] [(2,14502),(3,14503)]),Qx 46 0 45,Qx 47 1 45,Qs 4 8 46,Qm 9 47] [8,9] [8,12402,12403,14102,14103,14502,14503])
 (.ret))))))
def dg.m:Fn:={np:=4,body:=dg.b,res:=[.cell 8 true 4,.tmp 9]}
def dg.k(M:Nat→Option Body):Prop:=M 280=some (.code dg.m)∧dB.k M∧aI.k M∧dj.k M∧cj.k M∧dG.k M∧dX.k M
def dh.b:C:= .seq (.ak [Qv 3 0,Q 6 (.alloc [.int .i64 0,.int .i64 0,.aN 7,.aN 1]),Qb 7 false] [1,2,3,6] [3,6,11302,11303])
 (.seq (.ak [QL 12 4 3,Q 13 (.call 219 [.t 12] [] [(2,11302),(3,11303)]),Q 8 (.alloc [.int .i64 0,.int .i64 0,.aN 7,.aN 1]),Qs 4 8 13] [1,2,3,6,8] [3,6,8,11302,11303])
 (.seq (.ak [QL 14 4 3,Qm 15 1,Q 16 (.call 196 [.t 14,.t 15] [] []),Qm 9 16] [2,3,6,8,9] [3,6,8,11302,11303])
 (.seq (.seq (.ak [QL 17 4 3,Q 18 (.call 149 [.t 17] [] []),Q 19 (.not (.t 18)),Qm 20 19,Qg 21 (.mv (.t 9)) 20 false,Qg 22 (.bin .lss (.t 21) (kI 0)) 20 false,
   Q 23 (.pick (.t 20) (kB true) (.t 22))] [2,3,6,8,9,23] [3,6,8,11302,11303])
 (.cond (.t 23) (.seq (.ak [QL 24 4 8,Qs 4 6 24,Qb 7 false] [6,7] [6,11302,11303])
 (.ret)) (.skip)))
 (.seq (.ak [Qf 26 2 3,Ql 27 26,Qm 28 9,Qa 29 7 27 28,QL 30 7 29,Qm 31 2,Q 32 (.call 86 [.t 30,.t 31] [] []),Qm 25 32,Qx 33 0 25,Qx 34 1 25,
   Q 10 (.alloc [.int .i64 0,.str ⟨#[]⟩,.int .i64 0,.int .i64 0,.int .i64 0,.aN 4,.aN 1]),Qs 7 10 33,Qm 11 34] [6,8,9,10,11] [6,8,10,11302,11303])
 (.seq (.seq (.ak [Qm 35 11,Q 36 (.not (.t 35))] [6,8,9,10,36] [6,8,10,11302,11303])
 (.cond (.t 36) (.seq (.ak [QL 37 4 8,Qs 4 6 37,Qb 7 false] [6,7] [6,11302,11303])
 (.ret)) (.skip)))
 (.seq (.ak [Qf 38 2 8,Ql 39 38,Qm 40 9,QL 41 7 10,Qa 42 7 39 40,Qs 7 42 41] [6,8] [6,8,11302,11303])
 (.seq (.ak [QL 43 4 8,Qs 4 6 43,Qb 7 true] [6,7] [6,11302,11303])
 (.ret))))))))
def dh.m:Fn:={np:=3,body:=dh.b,res:=[.cell 6 true 4,.tmp 7]}
def dh.k(M:Nat→Option Body):Prop:=M 281=some (.code dh.m)∧cZ.k M∧aI.k M∧dj.k M∧cj.k M
def fK.l0:C:= .seq (.seq (.ak [Qm 8 4,Qm 9 0,Q 10 (.len (.t 9)),Q 11 (.bin .lss (.t 8) (.t 10)),Qm 12 11,Qg 13 (.mv (.t 4)) 12 true,Qg 14 (.bin .lss (.t 13) (kI 4000)) 12 true,
    Q 15 (.pick (.t 12) (.t 14) (kB false))] [0,3,4,15] [])
 (.cond (.t 15) (.skip) (.exit 0)))
 (.seq (.block 1 (.ak [Qm 18 3,Q 19 (.bin .mul (.t 18) (kI 131)),Qm 20 0,Qm 21 4,Qa 22 1 20 21,Ql 23 22,Q 24 (.rB .i64 (.t 23)),Q 25 (.bin .add (.t 19) (.t 24)),Q 26 (.bin .add (.t 25) (kI 7)),
   Q 27 (.bin .and (.t 26) (kI 1073741823)),Qm 3 27] [0,3,4] []))
 (.ak [Qm 16 4,Q 17 (.bin .add (.t 16) (kI 1)),Qm 4 17] [0,3,4] []))
def fK.b:C:= .seq (.ak [Q 2 (.np)] [0] [])
 (.seq (.ak [Qm 5 0,Q 6 (.len (.t 5)),Q 7 (.bin .add (kI 77201) (.t 6)),Qm 3 7] [0,3] [])
 (.seq (.seq (.ak [Qi 4 0] [0,3,4] [])
 (.block 0 (.loop fK.l0)))
 (.seq (.ak [Qm 28 0,Qm 29 3,Q 30 (.build [.aN 1,.int .i64 0,.int .i64 0] [(0,1,.t 28),(2,1,.t 29)]),Qv 31 30,Qm 2 31] [2] [31])
 (.ret))))
def fK.m:Fn:={np:=1,body:=fK.b,res:=[.tmp 2]}
def fK.k(M:Nat→Option Body):Prop:=M 124=some (.code fK.m)
def fu.b:C:= .seq (.ak [Qi 2 0] [0] [0])
 (.seq (.ak [Qm 4 0,Qm 5 0,Q 6 (.jG (.t 5)),Qf 7 2 6,Ql 8 7,Q 9 (.bin .mul (.t 8) (kI 6364136223846793005)),Q 10 (.bin .add (.t 9) (kI 1442695040888963407)),Q 11 (.jG (.t 4)),
   Qf 12 2 11,Qs 1 12 10] [0] [0])
 (.seq (.gm [Qm 13 0,Q 14 (.jG (.t 13)),Qf 15 2 14,Ql 16 15,Q 17 (.bin .shr (.t 16) (.k (.int .u64 33))),Qm 18 0,Q 19 (.jG (.t 18)),Qf 20 2 19,Ql 21 20,
   Q 22 (.bin .shr (.t 21) (.k (.int .u64 45))),Q 23 (.bin .xor (.t 17) (.t 22)),Q 24 (.bin .and (.t 23) (kI 255)),Qm 3 24] [[],[0],[0,1],[0,1,2],lr 4,[],[5],[5,6],[5,6,7],[5,6,7,8],lr 10,lr 11,lr 12] [0,3] [0])
 (.seq (.seq (.gm [Qm 25 0,Q 26 (.jG (.t 25)),Qf 27 1 26,Ql 28 27,Qm 29 0,Q 30 (.jG (.t 29)),Qf 31 0 30,Ql 32 31,Q 33 (.len (.t 32)),Q 34 (.bin .lss (.t 28) (.t 33))] [[],[0],[0,1],[0,1,2],[],[4],[4,5],[4,5,6],[4,5,6,7],lr 9] [0,3,34] [0])
 (.cond (.t 34) (.seq (.gm [Qm 35 3,Qm 36 0,Q 37 (.jG (.t 36)),Qf 38 0 37,Ql 39 38,Qm 40 0,Q 41 (.jG (.t 40)),Qf 42 1 41,Ql 43 42,Qa 44 1 39 43,Ql 45 44,Q 46 (.rB .i64 (.t 45)),
   Q 47 (.bin .add (.t 35) (.t 46)),Q 48 (.bin .and (.t 47) (kI 255)),Qm 3 48] [[],[],[1],[1,2],[1,2,3],[],[5],[5,6],[5,6,7],[1,2,3,4,5,6,7,8],[1,2,3,4,5,6,7,8,9],[1,2,3,4,5,6,7,8,9,10],lr 12,lr 13,lr 14] [0,3] [0])
 (.ak [Qm 49 0,Qm 50 0,Q 51 (.jG (.t 50)),Qf 52 1 51,Ql 53 52,Q 54 (.bin .add (.t 53) (kI 1)),Q 55 (.jG (.t 49)),Qf 56 1 55,Qs 1 56 54] [3] [0])) (.skip)))
 (.seq (.ak [Qm 57 3,Qm 2 57] [2] [0])
 (.ret)))))
def fu.m:Fn:={np:=1,body:=fu.b,res:=[.tmp 2]}
def fu.k(M:Nat→Option Body):Prop:=M 131=some (.code fu.m)
def bD.b:C:= .seq (.ak [Qi 4 0] [0,1] [0])
 (.seq (.seq (.ak [Qm 9 1,Q 10 (.bin .leq (.t 9) (kI 0))] [0,1,10] [0])
 (.cond (.t 10) (.seq (.ak [Qi 4 0] [4] [0])
 (.ret)) (.skip)))
 (.seq (.seq (.ak [Qm 11 1,Q 12 (.bin .leq (.t 11) (kI 256))] [0,1,12] [0])
 (.cond (.t 12) (.seq (.ak [Qm 13 0,Q 14 (.call 131 [.t 13] [0] []),Qm 15 1,Q 16 (.bin .rem (.t 14) (.t 15)),Qm 4 16] [4] [0])
 (.ret)) (.skip)))
 (.seq (.ak [Qm 17 0,Q 18 (.call 131 [.t 17] [0] []),Qm 5 18] [0,1,5] [0])
 (.seq (.ak [Qm 19 0,Q 20 (.call 131 [.t 19] [0] []),Qm 6 20] [0,1,5,6] [0])
 (.seq (.ak [Qm 21 0,Q 22 (.call 131 [.t 21] [0] []),Qm 7 22] [0,1,5,6,7] [0])
 (.seq (.ak [Qm 23 0,Q 24 (.call 131 [.t 23] [0] []),Qm 8 24] [1,5,6,7,8] [0])
 (.seq (.ak [Qm 25 5,Q 26 (.bin .mul (.t 25) (kI 16777216)),Qm 27 6,Q 28 (.bin .mul (.t 27) (kI 65536)),Q 29 (.bin .add (.t 26) (.t 28)),Qm 30 7,Q 31 (.bin .mul (.t 30) (kI 256)),
   Q 32 (.bin .add (.t 29) (.t 31)),Qm 33 8,Q 34 (.bin .add (.t 32) (.t 33)),Qm 35 1,Q 36 (.bin .rem (.t 34) (.t 35)),Qm 4 36] [4] [0])
 (.ret))))))))
def bD.m:Fn:={np:=2,body:=bD.b,res:=[.tmp 4]}
def bD.k(M:Nat→Option Body):Prop:=M 125=some (.code bD.m)∧fu.k M
def dS.b:C:= .seq (.ak [Q 4 (.mv (.k (.str ⟨#[]⟩)))] [0,1] [0])
 (.seq (.ak [Qm 5 1,Qm 6 0,Qm 7 1,Q 8 (.len (.t 7)),Q 9 (.call 125 [.t 6,.t 8] [0] []),Qa 10 1 5 9,Ql 11 10,Qm 4 11] [4] [0])
 (.ret))
def dS.m:Fn:={np:=2,body:=dS.b,res:=[.tmp 4]}
def dS.k(M:Nat→Option Body):Prop:=M 185=some (.code dS.m)∧bD.k M
def fU.b:C:= .seq (.ak [Q 2 (.mv (.k (.str ⟨#[]⟩)))] [0] [0])
 (.seq (.ak [Qm 3 0,
   Q 4 (.tz 1 6 [.str ⟨#[]⟩] [(0,.k (.str ⟨#[104,101,108,108,111]⟩)),(1,.k (.str ⟨#[104,105,10]⟩)),(2,.k (.str ⟨#[]⟩)),(3,.k (.str ⟨#[116,101,120,116,32,111,102,32,105,116]⟩)),(4,.k (.str ⟨#[0,255]⟩)),(5,.k (.str ⟨#[97,32,98]⟩))]),
   Q 5 (.call 185 [.t 3,.t 4] [0] []),Qm 2 5] [2] [0])
 (.ret))
def fU.m:Fn:={np:=1,body:=fU.b,res:=[.tmp 2]}
def fU.k(M:Nat→Option Body):Prop:=M 174=some (.code fU.m)∧dS.k M
def ky.b:C:= .seq (.ak [Qb 2 false] [0] [])
 (.seq (.ak [Qm 3 0,Q 4 (.len (.t 3)),Q 5 (.bin .gtr (.t 4) (kI 1048576)),Qm 2 5] [2] [])
 (.ret))
def ky.m:Fn:={np:=1,body:=ky.b,res:=[.tmp 2]}
def ky.k(M:Nat→Option Body):Prop:=M 36=some (.code ky.m)
def gU.b:C:= .seq (.ak [Qb 4 false] [0,1] [0])
 (.seq (.ak [Qm 5 0,Qm 6 1,Q 7 (.call 125 [.t 5,.t 6] [0] []),Q 8 (.bin .eql (.t 7) (kI 0)),Qm 4 8] [4] [0])
 (.ret))
def gU.m:Fn:={np:=2,body:=gU.b,res:=[.tmp 4]}
def gU.k(M:Nat→Option Body):Prop:=M 175=some (.code gU.m)∧bD.k M
def fe.b:C:= .seq (.ak [Q 2 (.alloc [.int .i64 0,.int .i64 0,.aN 7,.aN 1])] [0,2] [2])
 (.seq (.ak [Qm 3 0,Q 4 (.build [.int .i64 0,.int .i64 0,.aN 7,.aN 1] [(0,1,.t 3)]),Qs 4 2 4] [2] [2])
 (.ret))
def fe.m:Fn:={np:=1,body:=fe.b,res:=[.cell 2 true 4]}
def fe.k(M:Nat→Option Body):Prop:=M 113=some (.code fe.m)
def a_.br:C:= .seq (.ak [Qm 59 10,Q 60 (.bin .eql (.t 59) (kI 0)),Qm 61 60,Qg 62 (.mv (.t 13)) 61 false,Qg 63 (.bin .eql (.t 62) (kI 0)) 61 false,Q 64 (.pick (.t 61) (kB true) (.t 63)),Qm 58 64] [0,2,3,5,8,9,10,11,13,58] [0,5,8,15502,15503])
 (.cond (.t 58) (.shut [15502,15503] (.gm [QL 66 4 5,Qm 67 3,Qm 68 9,Q 69 (.bin .add (.t 67) (.t 68)),Qm 70 0,
   Q 71 (.tz 1 3 [.str ⟨#[]⟩] [(0,.k (.str ⟨#[105,110,98,111,120]⟩)),(1,.k (.str ⟨#[119,111,114,107]⟩)),(2,.k (.str ⟨#[111,108,100]⟩))]),
   Q 72 (.call 185 [.t 70,.t 71] [0] []),Q 73 (.call 278 [.t 66,.t 69,.t 72] [] [(2,15502),(3,15503)]),Qm 65 73,Qx 74 0 65,Qx 75 1 65,Qs 4 5 74] [[],[],[],[1,2],[],[],[4,5],lr 7,lr 8,lr 9,lr 9,lr 10] [0,2,3,5,8,9] [0,5,8,15502,15503])) (.seq (.ak [Qm 77 13,Q 78 (.bin .lss (.t 77) (kI 6)),Qm 76 78] [0,2,3,5,8,9,10,11,13,76] [0,5,8,15502,15503])
 (.cond (.t 76) (.shut [15502,15503] (.gm [QL 80 4 5,Qm 81 10,Qm 82 3,Qm 83 9,Q 84 (.bin .add (.t 82) (.t 83)),Qm 85 0,Q 86 (.call 125 [.t 85,kI 8] [0] []),Qm 87 0,Q 88 (.call 174 [.t 87] [0] []),
   Q 89 (.call 279 [.t 80,.t 81,.t 84,.t 86,.t 88] [] [(2,15502),(3,15503)]),Qm 79 89,Qx 90 0 79,Qx 91 1 79,Qs 4 5 90] [[],[],[],[],[2,3],[],[5],[],[5,6,7],lr 9,lr 10,lr 11,lr 11,lr 12] [0,2,3,5,8,9] [0,5,8,15502,15503])) (.seq (.ak [Qm 93 13,Q 94 (.bin .lss (.t 93) (kI 9)),Qm 92 94] [0,2,3,5,8,9,10,11,13,92] [0,5,8,15502,15503])
 (.cond (.t 92) (.shut [15502,15503] (.gm [QL 96 4 5,Qm 97 10,Qm 98 11,Qm 99 0,Q 100 (.call 125 [.t 99,kI 8] [0] []),Q 101 (.call 280 [.t 96,.t 97,.t 98,.t 100] [] [(2,15502),(3,15503)]),Qm 95 101,Qx 102 0 95,
   Qx 103 1 95,Qs 4 5 102] [[],[],[],[],[3],lr 5,lr 6,lr 7,lr 7,lr 8] [0,2,3,5,8,9] [0,5,8,15502,15503])) (.seq (.ak [Qm 105 13,Q 106 (.bin .eql (.t 105) (kI 9)),Qm 104 106] [0,2,3,5,8,9,10,11,13,104] [0,5,8,15502,15503])
 (.cond (.t 104) (.shut [15502,15503] (.ak [QL 108 4 5,Qm 109 10,Qm 110 11,Q 111 (.call 281 [.t 108,.t 109,.t 110] [] [(2,15502),(3,15503)]),Qm 107 111,Qx 112 0 107,Qx 113 1 107,Qs 4 5 112] [0,2,3,5,8,9] [0,5,8,15502,15503])) (.seq (.ak [Qm 115 13,Q 116 (.bin .eql (.t 115) (kI 10)),Qm 114 116] [0,2,3,5,8,9,10,114] [0,5,8,15502,15503])
 (.cond (.t 114) (.shut [15502,15503] (.gm [QL 118 4 5,Qm 119 10,Qm 120 0,
   Q 121 (.tz 1 4 [.str ⟨#[]⟩] [(0,.k (.str ⟨#[105,110,98,111,120]⟩)),(1,.k (.str ⟨#[119,111,114,107]⟩)),(2,.k (.str ⟨#[110,101,119]⟩)),(3,.k (.str ⟨#[111,116,104,101,114]⟩))]),
   Q 122 (.call 185 [.t 120,.t 121] [0] []),Q 123 (.call 282 [.t 118,.t 119,.t 122] [] [(2,15502),(3,15503)]),Qm 117 123,Qx 124 0 117,Qx 125 1 117,Qs 4 5 124] [[],[],[],[],[2,3],lr 5,lr 6,lr 7,lr 7,lr 8] [0,2,3,5,8,9] [0,5,8,15502,15503])) (.seq (.ak [Qm 50 0,Q 51 (.call 175 [.t 50,kI 3] [0] [])] [0,2,3,5,8,9,10,51] [0,5,8,15502,15503])
 (.cond (.t 51) (.shut [15502,15503] (.ak [QL 53 4 5,Qm 54 10,Q 55 (.call 283 [.t 53,.t 54] [] [(2,15502),(3,15503)]),Qm 52 55,Qx 56 0 52,Qx 57 1 52,Qs 4 5 56] [0,2,3,5,8,9] [0,5,8,15502,15503])) (.skip))))))))))))
def a_.hd:C:= .seq (.seq (.ak [Qf 19 2 5,Ql 20 19,Q 21 (.len (.t 20)),Q 22 (.bin .gtr (.t 21) (kI 0))] [0,2,3,5,8,9,10,11,22] [0,5,8,15502,15503])
 (.cond (.t 22) (.seq (.gm [Qf 23 2 5,Ql 24 23,Qm 25 0,Qf 26 2 5,Ql 27 26,Q 28 (.len (.t 27)),Q 29 (.call 125 [.t 25,.t 28] [0] []),Qa 30 7 24 29,QL 31 7 30,
   Q 12 (.alloc [.int .i64 0,.str ⟨#[]⟩,.int .i64 0,.int .i64 0,.int .i64 0,.aN 4,.aN 1]),Qs 7 12 31] [[],[0],[],[],[3],[3,4],[2,3,4,5],lr 7,lr 8,[],lr 10] [0,2,3,5,8,9,11,12] [0,5,8,12,15502,15503])
 (.seq (.ak [Qf 32 0 12,Ql 33 32,Qm 10 33] [0,2,3,5,8,9,10,11,12] [0,5,8,12,15502,15503])
 (.seq (.ak [Qf 34 5 12,Ql 35 34,Q 36 (.len (.t 35)),Q 37 (.bin .gtr (.t 36) (kI 0))] [0,2,3,5,8,9,10,11,12,37] [0,5,8,12,15502,15503])
 (.cond (.t 37) (.gm [Qf 38 5 12,Ql 39 38,Qm 40 0,Qf 41 5 12,Ql 42 41,Q 43 (.len (.t 42)),Q 44 (.call 125 [.t 40,.t 43] [0] []),Qa 45 4 39 44,Qf 46 0 45,Ql 47 46,Qm 11 47] [[],[0],[],[],[3],[3,4],[2,3,4,5],lr 7,lr 8,lr 9,lr 10] [0,2,3,5,8,9,10,11] [0,5,8,15502,15503]) (.skip))))) (.skip)))
 (.seq (.ak [Qm 48 0,Q 49 (.call 125 [.t 48,kI 12] [0] []),Qm 13 49] [0,2,3,5,8,9,10,11,13] [0,5,8,15502,15503])
 (.block 2 a_.br))
def a_.l0:C:= .seq (.seq (.ak [Qm 14 9,Qm 15 2,Q 16 (.bin .lss (.t 14) (.t 15))] [0,2,3,5,8,9,16] [0,5,8,15502,15503])
 (.cond (.t 16) (.skip) (.exit 0)))
 (.seq (.block 1 (.seq (.ak [Qi 10 0] [0,2,3,5,8,9,10] [0,5,8,15502,15503])
 (.seq (.ak [Qi 11 0] [0,2,3,5,8,9,10,11] [0,5,8,15502,15503])
 a_.hd)))
 (.ak [Qm 17 9,Q 18 (.bin .add (.t 17) (kI 1)),Qm 9 18] [0,2,3,5,8,9] [0,5,8,15502,15503]))
def a_.b:C:= .seq (.ak [Qv 5 1,Q 8 (.alloc [.int .i64 0,.int .i64 0,.aN 7,.aN 1])] [0,2,3,5,8] [0,5,8,15502,15503])
 (.seq (.seq (.ak [Qi 9 0] [0,2,3,5,8,9] [0,5,8,15502,15503])
 (.block 0 (.loop a_.l0)))
 (.seq (.ak [QL 126 4 5,Qs 4 8 126] [8] [0,8,15502,15503])
 (.ret)))
def a_.m:Fn:={np:=4,body:=a_.b,res:=[.cell 8 true 4]}
def a_.k(M:Nat→Option Body):Prop:=M 244=some (.code a_.m)∧bD.k M∧fU.k M∧gU.k M∧dS.k M∧bT.k M∧dq.k M∧dg.k M∧dh.k M∧cF.k M∧dv.k M
def gI.b:C:= .seq (.ak [Qv 2 0,Qv 3 1,Q 4 (.alloc [.int .i64 0,.int .i64 0,.int .i64 0])] [2,3,4] [2,3,4])
 (.seq (.seq (.ak [Qf 5 1 3,QL 6 2 5,Qf 7 1 2,QL 8 2 7,Q 9 (.call 275 [.t 6,.t 8] [] []),Qm 10 9,Qg 11 (.bH 1 (.t 2)) 10 false,Qg 12 (.load true 2 (.t 11)) 10 false,
   Qg 13 (.bH 1 (.t 3)) 10 false,Qg 14 (.load true 2 (.t 13)) 10 false,Qg 15 (.call 275 [.t 12,.t 14] [] []) 10 false,Qg 16 (.not (.t 15)) 10 false,
   Qg 17 (.mv (.t 16)) 10 false,Qg 18 (.bH 0 (.t 3)) 17 true,Qg 19 (.load false 1 (.t 18)) 17 true,Qg 20 (.bH 0 (.t 2)) 17 true,Qg 21 (.load false 1 (.t 20)) 17 true,
   Qg 22 (.bin .gtr (.t 19) (.t 21)) 17 true,Qg 23 (.pick (.t 17) (.t 22) (kB false)) 10 false,Q 24 (.pick (.t 10) (kB true) (.t 23))] [2,3,4,24] [2,3,4])
 (.cond (.t 24) (.seq (.ak [QL 25 3 3,Qs 3 4 25] [4] [4])
 (.ret)) (.skip)))
 (.seq (.ak [QL 26 3 2,Qs 3 4 26] [4] [4])
 (.ret)))
def gI.m:Fn:={np:=2,body:=gI.b,res:=[.cell 4 true 3]}
def gI.k(M:Nat→Option Body):Prop:=M 485=some (.code gI.m)∧fJ.k M
def dQ.l0:C:= .seq (.seq (.ak [Qm 8 6,Qm 9 0,Q 10 (.len (.t 9)),Q 11 (.bin .lss (.t 8) (.t 10)),Qm 12 11,Qg 13 (.mv (.t 6)) 12 true,Qg 14 (.mv (.t 1)) 12 true,Qg 15 (.len (.t 14)) 12 true,
    Qg 16 (.bin .lss (.t 13) (.t 15)) 12 true,Q 17 (.pick (.t 12) (.t 16) (kB false))] [0,1,5,6,17] [7,31])
 (.cond (.t 17) (.skip) (.exit 0)))
 (.seq (.block 1 (.gm [Qm 20 5,Qm 21 0,Qm 22 6,Qa 23 3 21 22,QL 24 3 23,Qm 25 1,Qm 26 6,Qa 27 3 25 26,QL 28 3 27,Q 29 (.call 485 [.t 24,.t 28] [] []),
   Q 30 (.bZ 3 1 [.int .i64 0,.int .i64 0,.int .i64 0] [(0,.t 29)]),Q 31 (.app 3 24 (.t 20) (.t 30)),Qm 5 31] [[],[],[],[1,2],[1,2,3],[],[],[5,6],[5,6,7],[1,2,3,4,5,6,7,8],[1,2,3,4,5,6,7,8,9],lr 11,lr 12] [0,1,5,6] [7,31]))
 (.ak [Qm 18 6,Q 19 (.bin .add (.t 18) (kI 1)),Qm 6 19] [0,1,5,6] [7,31]))
def dQ.b:C:= .seq (.ak [Q 4 (.nil 3)] [0,1] [])
 (.seq (.ak [Q 7 (.bZ 3 0 [.int .i64 0,.int .i64 0,.int .i64 0] []),Qm 5 7] [0,1,5] [7,31])
 (.seq (.seq (.ak [Qi 6 0] [0,1,5,6] [7,31])
 (.block 0 (.loop dQ.l0)))
 (.seq (.ak [Qm 32 5,Qm 4 32] [4] [4,7,31])
 (.ret))))
def dQ.m:Fn:={np:=2,body:=dQ.b,res:=[.tmp 4]}
def dQ.k(M:Nat→Option Body):Prop:=M 470=some (.code dQ.m)∧gI.k M
def fg.b:C:= .seq (.ak [Qv 2 0,Qv 3 1,Q 4 (.alloc [.int .i64 0,.int .i64 0,.aN 3,.str ⟨#[]⟩])] [2,3,4] [2,3,4,11102,12300])
 (.seq (.seq (.ak [Qf 5 0 2,Ql 6 5,Qf 7 0 3,Ql 8 7,Q 9 (.bin .neq (.t 6) (.t 8))] [2,3,4,9] [2,3,4,11102,12300])
 (.cond (.t 9) (.seq (.ak [QL 10 4 2,Q 11 (.call 233 [.t 10] [] [(2,11102)]),Qs 4 4 11] [4] [4,11102,12300])
 (.ret)) (.skip)))
 (.seq (.gm [Qf 12 0 2,Ql 13 12,Qf 14 1 2,Ql 15 14,Qf 16 1 3,Ql 17 16,Q 18 (.max (.t 15) (.t 17)),Qf 19 2 2,Ql 20 19,Qf 21 2 3,Ql 22 21,
   Q 23 (.call 470 [.t 20,.t 22] [] [(0,12300)]),Qf 24 3 2,Ql 25 24,Qf 26 3 3,Ql 27 26,Q 28 (.max (.t 25) (.t 27)),
   Q 29 (.build [.int .i64 0,.int .i64 0,.aN 3,.str ⟨#[]⟩] [(0,1,.t 13),(1,1,.t 18),(2,1,.t 23),(3,1,.t 28)]),Qs 4 4 29] [[],[0],[],[2],[],[4],[2,3,4,5],[],[7],[],[9],[7,8,9,10],[],[12],[],[14],[12,13,14,15],lr 17,lr 18] [4] [4,11102,12300])
 (.ret)))
def fg.m:Fn:={np:=2,body:=fg.b,res:=[.cell 4 true 4]}
def fg.k(M:Nat→Option Body):Prop:=M 452=some (.code fg.m)∧ee.k M∧dQ.k M
def fW.b:C:= .seq (.ak [Qv 2 0,Qv 3 1,Q 4 (.alloc [.int .i64 0,.int .i64 0,.int .i64 0])] [2,3,4] [2,3,4])
 (.seq (.seq (.ak [Qf 5 1 2,QL 6 2 5,Qf 7 1 3,QL 8 2 7,Q 9 (.call 277 [.t 6,.t 8] [] []),Qm 10 9,Qg 11 (.bH 1 (.t 2)) 10 false,Qg 12 (.load true 2 (.t 11)) 10 false,
   Qg 13 (.bH 1 (.t 3)) 10 false,Qg 14 (.load true 2 (.t 13)) 10 false,Qg 15 (.eqs false [.int,.int] (.t 12) (.t 14)) 10 false,Qg 16 (.mv (.t 15)) 10 false,
   Qg 17 (.bH 0 (.t 2)) 16 true,Qg 18 (.load false 1 (.t 17)) 16 true,Qg 19 (.bH 0 (.t 3)) 16 true,Qg 20 (.load false 1 (.t 19)) 16 true,
   Qg 21 (.bin .geq (.t 18) (.t 20)) 16 true,Qg 22 (.pick (.t 16) (.t 21) (kB false)) 10 false,Q 23 (.pick (.t 10) (kB true) (.t 22))] [2,3,4,23] [2,3,4])
 (.cond (.t 23) (.seq (.ak [QL 24 3 2,Qs 3 4 24] [4] [4])
 (.ret)) (.skip)))
 (.seq (.ak [QL 25 3 3,Qs 3 4 25] [4] [4])
 (.ret)))
def fW.m:Fn:={np:=2,body:=fW.b,res:=[.cell 4 true 3]}
def fW.k(M:Nat→Option Body):Prop:=M 488=some (.code fW.m)∧gL.k M
def dJ.l0:C:= .seq (.seq (.ak [Qm 8 6,Qm 9 0,Q 10 (.len (.t 9)),Q 11 (.bin .lss (.t 8) (.t 10)),Qm 12 11,Qg 13 (.mv (.t 6)) 12 true,Qg 14 (.mv (.t 1)) 12 true,Qg 15 (.len (.t 14)) 12 true,
    Qg 16 (.bin .lss (.t 13) (.t 15)) 12 true,Q 17 (.pick (.t 12) (.t 16) (kB false))] [0,1,5,6,17] [7,31])
 (.cond (.t 17) (.skip) (.exit 0)))
 (.seq (.block 1 (.gm [Qm 20 5,Qm 21 0,Qm 22 6,Qa 23 3 21 22,QL 24 3 23,Qm 25 1,Qm 26 6,Qa 27 3 25 26,QL 28 3 27,Q 29 (.call 488 [.t 24,.t 28] [] []),
   Q 30 (.bZ 3 1 [.int .i64 0,.int .i64 0,.int .i64 0] [(0,.t 29)]),Q 31 (.app 3 24 (.t 20) (.t 30)),Qm 5 31] [[],[],[],[1,2],[1,2,3],[],[],[5,6],[5,6,7],[1,2,3,4,5,6,7,8],[1,2,3,4,5,6,7,8,9],lr 11,lr 12] [0,1,5,6] [7,31]))
 (.ak [Qm 18 6,Q 19 (.bin .add (.t 18) (kI 1)),Qm 6 19] [0,1,5,6] [7,31]))
def dJ.b:C:= .seq (.ak [Q 4 (.nil 3)] [0,1] [])
 (.seq (.ak [Q 7 (.bZ 3 0 [.int .i64 0,.int .i64 0,.int .i64 0] []),Qm 5 7] [0,1,5] [7,31])
 (.seq (.seq (.ak [Qi 6 0] [0,1,5,6] [7,31])
 (.block 0 (.loop dJ.l0)))
 (.seq (.ak [Qm 32 5,Qm 4 32] [4] [4,7,31])
 (.ret))))
def dJ.m:Fn:={np:=2,body:=dJ.b,res:=[.tmp 4]}
def dJ.k(M:Nat→Option Body):Prop:=M 472=some (.code dJ.m)∧fW.k M
def ff.b:C:= .seq (.ak [Qv 2 0,Qv 3 1,Q 4 (.alloc [.int .i64 0,.int .i64 0,.aN 3,.str ⟨#[]⟩])] [2,3,4] [2,3,4,10702,11800])
 (.seq (.ak [QL 6 4 2,Q 7 (.call 238 [.t 6] [] [(2,10702)]),Q 5 (.alloc [.int .i64 0,.int .i64 0,.aN 3,.str ⟨#[]⟩]),Qs 4 5 7] [2,3,4,5] [2,3,4,5,10702,11800])
 (.seq (.seq (.ak [Qf 8 0 2,Ql 9 8,Qf 10 0 3,Ql 11 10,Q 12 (.bin .neq (.t 9) (.t 11))] [2,3,4,5,12] [2,3,4,5,10702,11800])
 (.cond (.t 12) (.seq (.ak [QL 13 4 5,Qs 4 4 13] [4] [4,10702,11800])
 (.ret)) (.skip)))
 (.seq (.ak [Qf 14 2 2,Ql 15 14,Qf 16 2 3,Ql 17 16,Q 18 (.call 472 [.t 15,.t 17] [] [(0,11800)]),Qf 19 2 5,Qs 1 19 18] [2,3,4,5] [2,3,4,5,10702,11800])
 (.seq (.seq (.ak [Qf 20 1 3,Ql 21 20,Qf 22 1 2,Ql 23 22,Q 24 (.bin .gtr (.t 21) (.t 23))] [2,3,4,5,24] [2,3,4,5,10702,11800])
 (.cond (.t 24) (.ak [Qf 25 1 3,Ql 26 25,Qf 27 1 5,Qs 1 27 26] [2,3,4,5] [2,3,4,5,10702,11800]) (.skip)))
 (.seq (.seq (.ak [Qf 28 3 3,Ql 29 28,Qf 30 3 2,Ql 31 30,Q 32 (.bin .gtr (.t 29) (.t 31))] [3,4,5,32] [3,4,5,10702,11800])
 (.cond (.t 32) (.ak [Qf 33 3 3,Ql 34 33,Qf 35 3 5,Qs 1 35 34] [4,5] [4,5,10702,11800]) (.skip)))
 (.seq (.ak [QL 36 4 5,Qs 4 4 36] [4] [4,10702,11800])
 (.ret)))))))
def ff.m:Fn:={np:=2,body:=ff.b,res:=[.cell 4 true 4]}
def ff.k(M:Nat→Option Body):Prop:=M 461=some (.code ff.m)∧fq.k M∧dJ.k M
def aC.l0:C:= .seq (.seq (.ak [Qm 16 6,Qm 17 0,Q 18 (.len (.t 17)),Q 19 (.bin .lss (.t 16) (.t 18))] [0,1,5,6,19] [0])
 (.cond (.t 19) (.skip) (.exit 0)))
 (.seq (.block 1 (.seq (.ak [Qm 22 0,Qm 23 6,Qa 24 4 22 23,QL 25 4 24,Q 7 (.alloc [.int .i64 0,.int .i64 0,.aN 3,.str ⟨#[]⟩]),Qs 4 7 25] [0,1,5,6,7] [0,7])
 (.seq (.ak [Qm 26 1,QL 27 4 7,Q 28 (.nO (.t 26) [.t 27]),Q 29 (.not (.t 28))] [0,1,5,6,7,29] [0,7])
 (.cond (.t 29) (.seq (.ak [Qm 30 0,Qm 31 5,QL 32 4 7,Qa 33 4 30 31,Qs 4 33 32] [0,1,5,6] [0])
 (.ak [Qm 34 5,Q 35 (.bin .add (.t 34) (kI 1)),Qm 5 35] [0,1,5,6] [0])) (.skip)))))
 (.ak [Qm 20 6,Q 21 (.bin .add (.t 20) (kI 1)),Qm 6 21] [0,1,5,6] [0]))
def aC.b:C:= .seq (.ak [Q 4 (.nil 4)] [0,1] [0])
 (.seq (.ak [Qm 8 0,Qm 9 1,Q 10 (.call 161 [.t 8,.t 9] [] []),Qm 5 10] [0,1,5] [0])
 (.seq (.seq (.ak [Qm 11 5,Q 12 (.bin .eql (.t 11) (kI (-1)))] [0,1,5,12] [0])
 (.cond (.t 12) (.seq (.ak [Qm 13 0,Qm 4 13] [4] [0,4])
 (.ret)) (.skip)))
 (.seq (.seq (.ak [Qm 14 5,Q 15 (.bin .add (.t 14) (kI 1)),Qm 6 15] [0,1,5,6] [0])
 (.block 0 (.loop aC.l0)))
 (.seq (.ak [Qm 36 0,Qm 37 5,Q 38 (.vn 4 (.t 36) (some (.t 37)) none none),Qn (.DF [.int .i64 0,.int .i64 0,.aN 3,.str ⟨#[]⟩] (.t 38))] [0,5] [0])
 (.seq (.ak [Qm 39 0,Qm 40 5,Q 41 (.vn 4 (.t 39) none (some (.t 40)) none),Qm 4 41] [4] [0,4])
 (.ret))))))
def aC.m:Fn:={np:=2,body:=aC.b,res:=[.tmp 4]}
def aC.k(M:Nat→Option Body):Prop:=M 453=some (.code aC.m)∧aA.k M
def gA.b:C:= .seq (.ak [Qv 2 0,Qb 3 false] [1,2] [2])
 (.seq (.ak [Ql 4 1,Qf 5 0 2,Ql 6 5,Q 7 (.call 156 [.t 4,.t 6] [] []),Qm 3 7] [3] [])
 (.ret))
def gA.m:Fn:={np:=2,body:=gA.b,res:=[.tmp 3]}
def gA.k(M:Nat→Option Body):Prop:=M 454=some (.code gA.m)∧aH.k M
def ao.l1:C:= .seq (.seq (.gm [Qm 18 9,Qm 19 1,Q 20 (.bin .gtr (.t 18) (.t 19)),Qm 21 20,Qg 22 (.mv (.t 3)) 21 true,Qg 23 (.mv (.t 0)) 21 true,Qg 24 (.mv (.t 9)) 21 true,
    Qg 25 (.kL 4 (.t 23) (.t 24)) 21 true,Qg 26 (.load true 4 (.t 25)) 21 true,Qg 27 (.mv (.t 0)) 21 true,Qg 28 (.mv (.t 9)) 21 true,Qg 29 (.bin .sub (.t 28) (kI 1)) 21 true,
    Qg 30 (.kL 4 (.t 27) (.t 29)) 21 true,Qg 31 (.load true 4 (.t 30)) 21 true,Qg 32 (.nO (.t 22) [.t 26,.t 31]) 21 true,Qg 33 (.bin .lss (.t 32) (kI 0)) 21 true,
    Q 34 (.pick (.t 21) (.t 33) (kB false))] [[],[],[0,1],[0,1,2],lr 4,lr 4,lr 4,lr 4++[5,6],lr 4++[5,6,7],lr 4,lr 4,lr 4++[10],lr 4++[9,10,11],lr 4++[9,10,11,12],lr 14,lr 15,lr 16] [0,1,2,3,8,9,34] [0])
 (.cond (.t 34) (.skip) (.exit 2)))
 (.seq (.block 3 (.gm [Qm 37 0,Qm 38 9,Qm 39 0,Qm 40 9,Q 41 (.bin .sub (.t 40) (kI 1)),Qm 42 0,Qm 43 9,Q 44 (.bin .sub (.t 43) (kI 1)),Qa 45 4 42 44,QL 46 4 45,Qm 47 0,Qm 48 9,Qa 49 4 47 48,
   QL 50 4 49,Qa 51 4 37 38,Qs 4 51 46,Qa 52 4 39 41,Qs 4 52 50] [[],[],[],[],[3],[],[],[6],[5,6,7],[5,6,7,8],[],[],[10,11],[10,11,12],[0,1,5,6,7,8,9,10,11,12,13],[0,1,5,6,7,8,9,10,11,12,13,14],lr 16,lr 17] [0,1,2,3,8,9] [0]))
 (.ak [Qm 35 9,Q 36 (.bin .sub (.t 35) (kI 1)),Qm 9 36] [0,1,2,3,8,9] [0]))
def ao.l0:C:= .seq (.seq (.ak [Qm 12 8,Qm 13 2,Q 14 (.bin .lss (.t 12) (.t 13))] [0,1,2,3,8,14] [0])
 (.cond (.t 14) (.skip) (.exit 0)))
 (.seq (.block 1 (.seq (.ak [Qm 17 8,Qm 9 17] [0,1,2,3,8,9] [0])
 (.block 2 (.loop ao.l1))))
 (.ak [Qm 15 8,Q 16 (.bin .add (.t 15) (kI 1)),Qm 8 16] [0,1,2,3,8] [0]))
def ao.b:C:= .seq (.ak [Qm 10 1,Q 11 (.bin .add (.t 10) (kI 1)),Qm 8 11] [0,1,2,3,8] [0])
 (.block 0 (.loop ao.l0))
def ao.m:Fn:={np:=4,body:=ao.b,res:=[]}
def ao.k(M:Nat→Option Body):Prop:=M 486=some (.code ao.m)
def aL.l0:C:= .seq (.seq (.ak [Qm 11 8,Qm 12 1,Q 13 (.bin .leq (.t 11) (.t 12))] [0,1,2,6,7,8,13] [0])
 (.cond (.t 13) (.skip) (.exit 0)))
 (.block 1 (.seq (.ak [Qm 14 0,Qm 15 7,Qm 16 8,Qm 17 2,Q 18 (.call 486 [.t 14,.t 15,.t 16,.t 17] [0] [])] [0,1,2,6,8] [0])
 (.seq (.ak [Qm 19 8,Qm 7 19] [0,1,2,6,7,8] [0])
 (.ak [Qm 20 8,Qm 21 6,Q 22 (.bin .add (.t 20) (.t 21)),Qm 8 22] [0,1,2,6,7,8] [0]))))
def aL.l2:C:= .seq (.seq (.ak [Qm 33 8,Qm 34 1,Q 35 (.bin .leq (.t 33) (.t 34))] [0,1,2,6,7,8,35] [0])
 (.cond (.t 35) (.skip) (.exit 4)))
 (.block 5 (.seq (.ak [Qm 36 0,Qm 37 7,Qm 38 7,Qm 39 6,Q 40 (.bin .add (.t 38) (.t 39)),Qm 41 8,Qm 42 2,Q 43 (.call 487 [.t 36,.t 37,.t 40,.t 41,.t 42] [0] [])] [0,1,2,6,8] [0])
 (.seq (.ak [Qm 44 8,Qm 7 44] [0,1,2,6,7,8] [0])
 (.ak [Qm 45 8,Qm 46 6,Q 47 (.bin .mul (kI 2) (.t 46)),Q 48 (.bin .add (.t 45) (.t 47)),Qm 8 48] [0,1,2,6,7,8] [0]))))
def aL.l1:C:= .seq (.seq (.ak [Qm 28 6,Qm 29 1,Q 30 (.bin .lss (.t 28) (.t 29))] [0,1,2,6,30] [0])
 (.cond (.t 30) (.skip) (.exit 2)))
 (.block 3 (.seq (.ak [Qm 31 6,Q 32 (.bin .mul (kI 2) (.t 31)),Qi 7 0,Qm 8 32] [0,1,2,6,7,8] [0])
 (.seq (.block 4 (.loop aL.l2))
 (.seq (.seq (.ak [Qm 49 7,Qm 50 6,Q 51 (.bin .add (.t 49) (.t 50)),Qm 9 51] [0,1,2,6,7,9] [0])
 (.seq (.ak [Qm 52 9,Qm 53 1,Q 54 (.bin .lss (.t 52) (.t 53))] [0,1,2,6,7,9,54] [0])
 (.cond (.t 54) (.ak [Qm 55 0,Qm 56 7,Qm 57 9,Qm 58 1,Qm 59 2,Q 60 (.call 487 [.t 55,.t 56,.t 57,.t 58,.t 59] [0] [])] [0,1,2,6] [0]) (.skip))))
 (.ak [Qm 61 6,Q 62 (.bin .mul (.t 61) (kI 2)),Qm 6 62] [0,1,2,6] [0])))))
def aL.b:C:= .seq (.ak [Qi 6 20] [0,1,2,6] [0])
 (.seq (.ak [Qm 10 6,Qi 7 0,Qm 8 10] [0,1,2,6,7,8] [0])
 (.seq (.block 0 (.loop aL.l0))
 (.seq (.ak [Qm 23 0,Qm 24 7,Qm 25 1,Qm 26 2,Q 27 (.call 486 [.t 23,.t 24,.t 25,.t 26] [0] [])] [0,1,2,6] [0])
 (.block 2 (.loop aL.l1)))))
def aL.m:Fn:={np:=3,body:=aL.b,res:=[]}
def aL.k(M:Nat→Option Body):Prop:=M 471=some (.code aL.m)∧ao.k M
def aV.b:C:= .ak [Qm 4 0,Qm 5 0,Q 6 (.len (.t 5)),Qm 7 1,Q 8 (.call 471 [.t 4,.t 6,.t 7] [0] [])] [] [0]
def aV.m:Fn:={np:=2,body:=aV.b,res:=[]}
def aV.k(M:Nat→Option Body):Prop:=M 455=some (.code aV.m)∧aL.k M
def eP.b:C:= .seq (.ak [Qi 4 0] [0,1] [])
 (.seq (.block 0 (.seq (.ak [Qm 6 0,Qm 7 1,Q 8 (.bin .lss (.t 6) (.t 7)),Qm 5 8] [0,1,5] [])
 (.cond (.t 5) (.seq (.ak [Qi 4 (-1)] [4] [])
 (.ret)) (.seq (.ak [Qm 10 0,Qm 11 1,Q 12 (.bin .gtr (.t 10) (.t 11)),Qm 9 12] [9] [])
 (.cond (.t 9) (.seq (.ak [Qi 4 1] [4] [])
 (.ret)) (.skip))))))
 (.seq (.ak [Qi 4 0] [4] [])
 (.ret)))
def eP.m:Fn:={np:=2,body:=eP.b,res:=[.tmp 4]}
def eP.k(M:Nat→Option Body):Prop:=M 457=some (.code eP.m)
def gz.b:C:= .seq (.ak [Qv 2 0,Qv 3 1,Qi 4 0] [2,3] [2,3])
 (.seq (.ak [Qf 5 0 2,Ql 6 5,Qf 7 0 3,Ql 8 7,Q 9 (.call 457 [.t 6,.t 8] [] []),Qm 4 9] [4] [])
 (.ret))
def gz.m:Fn:={np:=2,body:=gz.b,res:=[.tmp 4]}
def gz.k(M:Nat→Option Body):Prop:=M 456=some (.code gz.m)∧eP.k M
def gw.b:C:= .seq (.ak [Qv 2 0,Qv 3 1,Qi 4 0] [2,3] [2,3])
 (.seq (.ak [Qf 5 1 2,Ql 6 5,Qf 7 1 3,Ql 8 7,Q 9 (.call 457 [.t 6,.t 8] [] []),Qm 4 9] [4] [])
 (.ret))
def gw.m:Fn:={np:=2,body:=gw.b,res:=[.tmp 4]}
def gw.k(M:Nat→Option Body):Prop:=M 458=some (.code gw.m)∧eP.k M
def bW.l0:C:= .seq (.ak [Q 21 (.bin .lss (.t 20) (.t 19))] [2,3,6,18,19,20,21] [2,3,16,41,59,16800])
 (.seq (.cond (.t 21) (.skip) (.exit 0))
 (.seq (.block 1 (.seq (.ak [Qa 22 4 18 20,QL 23 4 22,Q 8 (.alloc [.int .i64 0,.int .i64 0,.aN 3,.str ⟨#[]⟩]),Qs 4 8 23] [2,3,6,8,18,19,20] [2,3,8,16,41,59,16800])
 (.seq (.seq (.ak [QL 24 7 3,Qf 25 0 8,Ql 26 25,Q 27 (.call 72 [.t 24,.t 26] [] []),Qm 9 27] [2,3,6,8,9,18,19,20] [2,3,8,16,41,59,16800])
 (.seq (.ak [Qm 28 9,Q 29 (.bin .geq (.t 28) (kI 0))] [2,3,6,8,9,18,19,20,29] [2,3,8,16,41,59,16800])
 (.cond (.t 29) (.gm [QL 30 4 8,Qf 31 5 3,Ql 32 31,Qm 33 9,Qa 34 4 32 33,QL 35 4 34,Q 36 (.call 452 [.t 30,.t 35] [] []),Qs 4 8 36] [[],[],[1],[],[1,2,3],[1,2,3,4],lr 6,lr 7] [2,3,6,8,18,19,20] [2,3,8,16,41,59,16800]) (.skip))))
 (.ak [Qm 37 6,QL 38 4 8,Q 39 (.call 233 [.t 38] [] []),Q 40 (.bZ 4 1 [.int .i64 0,.int .i64 0,.aN 3,.str ⟨#[]⟩] [(0,.t 39)]),Q 41 (.app 4 56 (.t 37) (.t 40)),Qm 6 41] [2,3,6,18,19,20] [2,3,16,41,59,16800]))))
 (.ak [Q 42 (.bin .add (.t 20) (kI 1)),Qm 20 42] [2,3,6,18,19,20] [2,3,16,41,59,16800])))
def bW.l1:C:= .seq (.ak [Q 47 (.bin .lss (.t 46) (.t 45))] [2,3,6,44,45,46,47] [2,3,16,41,59,16800])
 (.seq (.cond (.t 47) (.skip) (.exit 2))
 (.seq (.block 3 (.seq (.ak [Qa 48 4 44 46,QL 49 4 48,Q 11 (.alloc [.int .i64 0,.int .i64 0,.aN 3,.str ⟨#[]⟩]),Qs 4 11 49] [2,3,6,11,44,45,46] [2,3,11,16,41,59,16800])
 (.seq (.ak [QL 50 7 2,Qf 51 0 11,Ql 52 51,Q 53 (.call 20 [.t 50,.t 52] [] []),Q 54 (.not (.t 53))] [2,3,6,11,44,45,46,54] [2,3,11,16,41,59,16800])
 (.cond (.t 54) (.ak [Qm 55 6,QL 56 4 11,Q 57 (.call 233 [.t 56] [] []),Q 58 (.bZ 4 1 [.int .i64 0,.int .i64 0,.aN 3,.str ⟨#[]⟩] [(0,.t 57)]),Q 59 (.app 4 56 (.t 55) (.t 58)),Qm 6 59] [2,3,6,44,45,46] [2,3,16,41,59,16800]) (.skip)))))
 (.ak [Q 60 (.bin .add (.t 46) (kI 1)),Qm 46 60] [2,3,6,44,45,46] [2,3,16,41,59,16800])))
def bW.l2:C:= .seq (.ak [Q 79 (.bin .lss (.t 78) (.t 77))] [2,3,6,13,76,77,78,79] [2,3,16,41,59,16800])
 (.seq (.cond (.t 79) (.skip) (.exit 4))
 (.seq (.block 5 (.seq (.ak [Qm 80 78,Qa 81 4 76 78,QL 82 4 81,Q 15 (.alloc [.int .i64 0,.int .i64 0,.aN 3,.str ⟨#[]⟩]),Qm 14 80,Qs 4 15 82] [2,3,6,13,14,15,76,77,78] [2,3,15,16,41,59,16800])
 (.seq (.ak [QL 83 7 2,Qf 84 0 15,Ql 85 84,Q 86 (.call 20 [.t 83,.t 85] [] []),Qm 87 86,Qg 88 (.load true 7 (.t 2)) 87 true,Qg 89 (.load true 7 (.t 3)) 87 true,
   Qg 90 (.bH 0 (.t 15)) 87 true,Qg 91 (.load false 1 (.t 90)) 87 true,Qg 92 (.call 23 [.t 88,.t 89,.t 91] [] []) 87 true,Qg 93 (.not (.t 92)) 87 true,
   Q 94 (.pick (.t 87) (.t 93) (kB false)),Qm 95 94,Qg 96 (.load true 7 (.t 3)) 95 false,Qg 97 (.bH 0 (.t 15)) 95 false,Qg 98 (.load false 1 (.t 97)) 95 false,
   Qg 99 (.call 20 [.t 96,.t 98] [] []) 95 false,Qg 100 (.mv (.t 99)) 95 false,Qg 101 (.load true 7 (.t 3)) 100 true,Qg 102 (.load true 7 (.t 2)) 100 true,
   Qg 103 (.bH 0 (.t 15)) 100 true,Qg 104 (.load false 1 (.t 103)) 100 true,Qg 105 (.call 23 [.t 101,.t 102,.t 104] [] []) 100 true,Qg 106 (.not (.t 105)) 100 true,
   Qg 107 (.pick (.t 100) (.t 106) (kB false)) 95 false,Q 108 (.pick (.t 95) (kB true) (.t 107))] [2,3,6,13,14,76,77,78,108] [2,3,16,41,59,16800])
 (.cond (.t 108) (.seq (.ak [Qm 109 6,Qm 110 14,Qm 111 13,Qa 112 4 109 110,Qf 113 1 112,Qs 1 113 111] [2,3,6,13,76,77,78] [2,3,16,41,59,16800])
 (.ak [Qm 114 13,Q 115 (.bin .add (.t 114) (kI 1)),Qm 13 115] [2,3,6,13,76,77,78] [2,3,16,41,59,16800])) (.skip)))))
 (.ak [Q 116 (.bin .add (.t 78) (kI 1)),Qm 78 116] [2,3,6,13,76,77,78] [2,3,16,41,59,16800])))
def bW.b:C:= .seq (.ak [Qv 2 0,Qv 3 1,Q 4 (.nil 4),Qi 5 0] [2,3] [2,3])
 (.seq (.ak [Q 16 (.bZ 4 0 [.int .i64 0,.int .i64 0,.aN 3,.str ⟨#[]⟩] []),Qm 6 16] [2,3,6] [2,3,16,41,59,16800])
 (.seq (.seq (.ak [Qf 17 5 2,Ql 18 17,Q 19 (.len (.t 18)),Qi 20 0] [2,3,6,18,19,20] [2,3,16,41,59,16800])
 (.block 0 (.loop bW.l0)))
 (.seq (.seq (.ak [Qf 43 5 3,Ql 44 43,Q 45 (.len (.t 44)),Qi 46 0] [2,3,6,44,45,46] [2,3,16,41,59,16800])
 (.block 2 (.loop bW.l1)))
 (.seq (.ak [Qf 61 6 2,Ql 62 61,Qf 63 6 3,Ql 64 63,Q 65 (.call 44 [.t 62,.t 64] [] []),Q 12 (.alloc [.aN 1]),Qs 1 12 65] [2,3,6,12] [2,3,12,16,41,59,16800])
 (.seq (.shut [12] (.ak [Qm 66 6,Q 67 (.sq 454 [.t 12]),Q 68 (.call 453 [.t 66,.t 67] [0] [(0,16800)]),Qm 6 68] [2,3,6] [2,3,16,41,59,16800]))
 (.seq (.ak [Qm 69 6,Q 70 (.call 455 [.t 69,.fn 456] [0] [])] [2,3,6] [2,3,16,41,59,16800])
 (.seq (.ak [Qf 71 4 2,Ql 72 71,Qf 73 4 3,Ql 74 73,Q 75 (.max (.t 72) (.t 74)),Qm 13 75] [2,3,6,13] [2,3,16,41,59,16800])
 (.seq (.seq (.ak [Qm 76 6,Q 77 (.len (.t 76)),Qi 78 0] [2,3,6,13,76,77,78] [2,3,16,41,59,16800])
 (.block 4 (.loop bW.l2)))
 (.seq (.ak [Qm 117 6,Q 118 (.call 455 [.t 117,.fn 458] [0] [])] [6,13] [16,41,59,16800])
 (.seq (.ak [Qm 119 6,Qm 120 13,Qm 4 119,Qm 5 120] [4,5] [4,16,41,59,16800])
 (.ret)))))))))))
def bW.m:Fn:={np:=2,body:=bW.b,res:=[.tmp 4,.tmp 5]}
def bW.k(M:Nat→Option Body):Prop:=M 437=some (.code bW.m)∧iH.k M∧dC.k M∧fh.k M∧cE.k M∧ee.k M∧fg.k M∧aC.k M∧gA.k M∧aV.k M∧gz.k M∧gw.k M
def gn.b:C:= .seq (.ak [Qv 2 0,Qv 3 1,Q 4 (.alloc [.int .i64 0,.str ⟨#[]⟩,.int .i64 0,.int .i64 0,.int .i64 0,.aN 4,.aN 1])] [2,3,4] [2,3,4,11205,11206,12300,15400])
 (.seq (.seq (.ak [Qf 6 0 2,Ql 7 6,Qf 8 0 3,Ql 9 8,Q 10 (.bin .neq (.t 7) (.t 9))] [2,3,4,10] [2,3,4,11205,11206,12300,15400])
 (.cond (.t 10) (.seq (.ak [QL 11 7 2,Q 12 (.call 155 [.t 11] [] [(5,11205),(6,11206)]),Qs 7 4 12] [4] [4,11205,11206,12300,15400])
 (.ret)) (.skip)))
 (.seq (.gm [Qf 13 0 2,Ql 14 13,Qf 15 1 2,Ql 16 15,Qf 17 2 2,QL 18 2 17,Qf 19 6 2,Ql 20 19,Qf 21 6 3,Ql 22 21,Q 23 (.call 44 [.t 20,.t 22] [] [(0,12300)]),
   Q 24 (.build [.int .i64 0,.str ⟨#[]⟩,.int .i64 0,.int .i64 0,.int .i64 0,.aN 4,.aN 1] [(0,1,.t 14),(1,1,.t 16),(2,2,.t 18),(6,1,.t 23)]),
   Q 5 (.alloc [.int .i64 0,.str ⟨#[]⟩,.int .i64 0,.int .i64 0,.int .i64 0,.aN 4,.aN 1]),Qs 7 5 24] [[],[0],[],[2],[],[4],[],[6],[],[8],[6,7,8,9],lr 11,[],lr 13] [2,3,4,5] [2,3,4,5,11205,11206,12300,15400])
 (.seq (.seq (.ak [Qf 25 2 3,QL 26 2 25,Qf 27 2 2,QL 28 2 27,Q 29 (.call 275 [.t 26,.t 28] [] []),Qm 30 29,Qg 31 (.bH 2 (.t 2)) 30 false,Qg 32 (.load true 2 (.t 31)) 30 false,
   Qg 33 (.bH 2 (.t 3)) 30 false,Qg 34 (.load true 2 (.t 33)) 30 false,Qg 35 (.call 275 [.t 32,.t 34] [] []) 30 false,Qg 36 (.not (.t 35)) 30 false,
   Qg 37 (.mv (.t 36)) 30 false,Qg 38 (.bH 1 (.t 3)) 37 true,Qg 39 (.load false 1 (.t 38)) 37 true,Qg 40 (.bH 1 (.t 2)) 37 true,Qg 41 (.load false 1 (.t 40)) 37 true,
   Qg 42 (.bin .gtr (.t 39) (.t 41)) 37 true,Qg 43 (.pick (.t 37) (.t 42) (kB false)) 30 false,Q 44 (.pick (.t 30) (kB true) (.t 43))] [2,3,4,5,44] [2,3,4,5,11205,11206,12300,15400])
 (.cond (.t 44) (.seq (.ak [Qf 45 1 3,Ql 46 45,Qf 47 1 5,Qs 1 47 46] [2,3,4,5] [2,3,4,5,11205,11206,12300,15400])
 (.ak [Qf 48 2 3,QL 49 2 48,Qf 50 2 5,Qs 2 50 49] [2,3,4,5] [2,3,4,5,11205,11206,12300,15400])) (.skip)))
 (.seq (.ak [QL 52 7 2,QL 53 7 3,Q 54 (.call 437 [.t 52,.t 53] [] [(0,15400)]),Qm 51 54,Qx 55 0 51,Qx 56 1 51,Qf 57 5 5,Qs 1 57 55,Qf 58 4 5,Qs 1 58 56] [4,5] [4,5,11205,11206,12300,15400])
 (.seq (.ak [QL 59 7 5,Qs 7 4 59] [4] [4,11205,11206,12300,15400])
 (.ret))))))
def gn.m:Fn:={np:=2,body:=gn.b,res:=[.cell 4 true 7]}
def gn.k(M:Nat→Option Body):Prop:=M 401=some (.code gn.m)∧fh.k M∧cq.k M∧fJ.k M∧bW.k M
def gE.b:C:= .seq (.ak [Qv 2 0,Qv 3 1,Qi 4 0] [2,3] [2,3])
 (.seq (.seq (.ak [Qf 5 4 2,Ql 6 5,Qf 7 4 3,Ql 8 7,Q 9 (.bin .gtr (.t 6) (.t 8))] [2,3,9] [2,3])
 (.cond (.t 9) (.seq (.ak [Qf 10 4 2,Ql 11 10,Qm 4 11] [4] [])
 (.ret)) (.skip)))
 (.seq (.ak [Qf 12 4 3,Ql 13 12,Qm 4 13] [4] [])
 (.ret)))
def gE.m:Fn:={np:=2,body:=gE.b,res:=[.tmp 4]}
def gE.k(M:Nat→Option Body):Prop:=M 459=some (.code gE.m)
def cY.l0:C:= .seq (.seq (.ak [Qm 9 6,Qf 10 5 2,Ql 11 10,Q 12 (.len (.t 11)),Q 13 (.bin .lss (.t 9) (.t 12))] [2,3,5,6,13] [2,3,8])
 (.cond (.t 13) (.skip) (.exit 0)))
 (.seq (.block 1 (.seq (.ak [Qm 16 5,Qf 17 5 2,Ql 18 17,Qm 19 6,Qa 20 4 18 19,Qf 21 0 20,Ql 22 21,Q 23 (.call 132 [.t 16,.t 22] [] []),Q 24 (.not (.t 23))] [2,3,5,6,24] [2,3,8])
 (.cond (.t 24) (.ak [Qm 25 5,Qf 26 5 2,Ql 27 26,Qm 28 6,Qa 29 4 27 28,Qf 30 0 29,Ql 31 30,Q 32 (.call 133 [.t 25,.t 31] [] [(0,8)]),Qm 5 32] [2,3,5,6] [2,3,8]) (.skip))))
 (.ak [Qm 14 6,Q 15 (.bin .add (.t 14) (kI 1)),Qm 6 15] [2,3,5,6] [2,3,8]))
def cY.l1:C:= .seq (.seq (.ak [Qm 33 7,Qf 34 5 3,Ql 35 34,Q 36 (.len (.t 35)),Q 37 (.bin .lss (.t 33) (.t 36))] [3,5,7,37] [3,8])
 (.cond (.t 37) (.skip) (.exit 2)))
 (.seq (.block 3 (.seq (.ak [Qm 40 5,Qf 41 5 3,Ql 42 41,Qm 43 7,Qa 44 4 42 43,Qf 45 0 44,Ql 46 45,Q 47 (.call 132 [.t 40,.t 46] [] []),Q 48 (.not (.t 47))] [3,5,7,48] [3,8])
 (.cond (.t 48) (.ak [Qm 49 5,Qf 50 5 3,Ql 51 50,Qm 52 7,Qa 53 4 51 52,Qf 54 0 53,Ql 55 54,Q 56 (.call 133 [.t 49,.t 55] [] [(0,8)]),Qm 5 56] [3,5,7] [3,8]) (.skip))))
 (.ak [Qm 38 7,Q 39 (.bin .add (.t 38) (kI 1)),Qm 7 39] [3,5,7] [3,8]))
def cY.b:C:= .seq (.ak [Qv 2 0,Qv 3 1,Q 4 (.nil 1)] [2,3] [2,3])
 (.seq (.ak [Q 8 (.bZ 1 0 [.int .i64 0] []),Qm 5 8] [2,3,5] [2,3,8])
 (.seq (.seq (.ak [Qi 6 0] [2,3,5,6] [2,3,8])
 (.block 0 (.loop cY.l0)))
 (.seq (.seq (.ak [Qi 7 0] [3,5,7] [3,8])
 (.block 2 (.loop cY.l1)))
 (.seq (.ak [Qm 57 5,Qm 4 57] [4] [4,8])
 (.ret)))))
def cY.m:Fn:={np:=2,body:=cY.b,res:=[.tmp 4]}
def cY.k(M:Nat→Option Body):Prop:=M 460=some (.code cY.m)∧bf.k M∧bX.k M
def cQ.l0:C:= .seq (.seq (.ak [Qm 9 6,Qm 10 0,Q 11 (.len (.t 10)),Q 12 (.bin .lss (.t 9) (.t 11))] [0,3,5,6,12] [3,8,29,33,54])
 (.cond (.t 12) (.skip) (.exit 0)))
 (.seq (.block 1 (.seq (.gm [Qm 15 0,Qm 16 6,Qa 17 4 15 16,Qf 18 1 17,Ql 19 18,Qf 20 1 3,Ql 21 20,Q 22 (.bin .leq (.t 19) (.t 21))] [[],[],[0,1],[0,1,2],lr 4,[],[5],lr 7] [0,3,5,6,22] [3,8,29,33,54])
 (.cond (.t 22) (.ak [Qm 23 5,Qm 24 0,Qm 25 6,Qa 26 4 24 25,QL 27 4 26,Q 28 (.bZ 4 1 [.int .i64 0,.int .i64 0,.aN 3,.str ⟨#[]⟩] [(0,.t 27)]),Q 29 (.app 4 56 (.t 23) (.t 28)),Qm 5 29] [0,3,5,6] [3,8,29,33,54]) (.skip))))
 (.ak [Qm 13 6,Q 14 (.bin .add (.t 13) (kI 1)),Qm 6 14] [0,3,5,6] [3,8,29,33,54]))
def cQ.l1:C:= .seq (.seq (.ak [Qm 34 7,Qm 35 0,Q 36 (.len (.t 35)),Q 37 (.bin .lss (.t 34) (.t 36))] [0,3,5,7,37] [3,8,29,33,54])
 (.cond (.t 37) (.skip) (.exit 2)))
 (.seq (.block 3 (.seq (.gm [Qm 40 0,Qm 41 7,Qa 42 4 40 41,Qf 43 1 42,Ql 44 43,Qf 45 1 3,Ql 46 45,Q 47 (.bin .gtr (.t 44) (.t 46))] [[],[],[0,1],[0,1,2],lr 4,[],[5],lr 7] [0,3,5,7,47] [3,8,29,33,54])
 (.cond (.t 47) (.ak [Qm 48 5,Qm 49 0,Qm 50 7,Qa 51 4 49 50,QL 52 4 51,Q 53 (.bZ 4 1 [.int .i64 0,.int .i64 0,.aN 3,.str ⟨#[]⟩] [(0,.t 52)]),Q 54 (.app 4 56 (.t 48) (.t 53)),Qm 5 54] [0,3,5,7] [3,8,29,33,54]) (.skip))))
 (.ak [Qm 38 7,Q 39 (.bin .add (.t 38) (kI 1)),Qm 7 39] [0,3,5,7] [3,8,29,33,54]))
def cQ.b:C:= .seq (.ak [Qv 3 1,Q 4 (.nil 4)] [0,3] [3])
 (.seq (.ak [Q 8 (.bZ 4 0 [.int .i64 0,.int .i64 0,.aN 3,.str ⟨#[]⟩] []),Qm 5 8] [0,3,5] [3,8,29,33,54])
 (.seq (.seq (.ak [Qi 6 0] [0,3,5,6] [3,8,29,33,54])
 (.block 0 (.loop cQ.l0)))
 (.seq (.ak [Qm 30 5,QL 31 4 3,Q 32 (.bZ 4 1 [.int .i64 0,.int .i64 0,.aN 3,.str ⟨#[]⟩] [(0,.t 31)]),Q 33 (.app 4 56 (.t 30) (.t 32)),Qm 5 33] [0,3,5] [3,8,29,33,54])
 (.seq (.seq (.ak [Qi 7 0] [0,3,5,7] [3,8,29,33,54])
 (.block 2 (.loop cQ.l1)))
 (.seq (.ak [Qm 55 5,Qm 4 55] [4] [4,8,29,33,54])
 (.ret))))))
def cQ.m:Fn:={np:=2,body:=cQ.b,res:=[.tmp 4]}
def cQ.k(M:Nat→Option Body):Prop:=M 462=some (.code cQ.m)
def cS.l0:C:= .seq (.seq (.ak [Qm 21 9,Qm 22 8,Q 23 (.len (.t 22)),Q 24 (.bin .lss (.t 21) (.t 23))] [2,3,6,7,8,9,24] [2,3,17])
 (.cond (.t 24) (.skip) (.exit 0)))
 (.seq (.block 1 (.seq (.ak [Qm 27 8,Qm 28 9,Qa 29 1 27 28,Ql 30 29,Qm 10 30] [2,3,6,7,8,9,10] [2,3,17])
 (.seq (.seq (.ak [Qf 31 6 2,Ql 32 31,Qm 33 10,Q 34 (.call 132 [.t 32,.t 33] [] []),Qm 35 34,Qg 36 (.bH 6 (.t 3)) 35 false,Qg 37 (.load false 1 (.t 36)) 35 false,
   Qg 38 (.mv (.t 10)) 35 false,Qg 39 (.call 132 [.t 37,.t 38] [] []) 35 false,Q 40 (.pick (.t 35) (kB true) (.t 39))] [2,3,6,7,8,9,10,40] [2,3,17])
 (.cond (.t 40) (.exit 1) (.skip)))
 (.seq (.ak [QL 41 7 2,Qm 42 10,Q 43 (.call 91 [.t 41,.t 42] [] []),Qm 11 43] [2,3,6,7,8,9,10,11] [2,3,17])
 (.seq (.ak [QL 44 7 3,Qm 45 10,Q 46 (.call 91 [.t 44,.t 45] [] []),Qm 12 46] [2,3,6,7,8,9,10,11,12] [2,3,17])
 (.seq (.ak [Q 47 (.build [.int .i64 0,.int .i64 0,.aN 3,.str ⟨#[]⟩] []),Q 13 (.alloc [.int .i64 0,.int .i64 0,.aN 3,.str ⟨#[]⟩]),Qs 4 13 47] [2,3,6,7,8,9,10,11,12,13] [2,3,13,17])
 (.seq (.block 2 (.seq (.ak [Qm 55 11,Q 56 (.bin .geq (.t 55) (kI 0)),Qm 57 56,Qg 58 (.mv (.t 12)) 57 true,Qg 59 (.bin .geq (.t 58) (kI 0)) 57 true,Q 60 (.pick (.t 57) (.t 59) (kB false)),Qm 54 60] [2,3,6,7,8,9,10,11,12,13,54] [2,3,13,17])
 (.cond (.t 54) (.gm [Qf 61 5 2,Ql 62 61,Qm 63 11,Qa 64 4 62 63,QL 65 4 64,Qf 66 5 3,Ql 67 66,Qm 68 12,Qa 69 4 67 68,QL 70 4 69,Q 71 (.call 461 [.t 65,.t 70] [] []),Qs 4 13 71] [[],[0],[],[0,1,2],lr 4,[],[5],[],[5,6,7],[5,6,7,8],lr 10,lr 11] [2,3,6,7,8,9,10,11,12,13] [2,3,13,17]) (.seq (.ak [Qm 73 11,Q 74 (.bin .geq (.t 73) (kI 0)),Qm 72 74] [2,3,6,7,8,9,10,11,12,13,72] [2,3,13,17])
 (.cond (.t 72) (.ak [Qf 75 5 2,Ql 76 75,Qm 77 11,Qa 78 4 76 77,QL 79 4 78,Q 80 (.call 238 [.t 79] [] []),Qs 4 13 80] [2,3,6,7,8,9,10,11,12,13] [2,3,13,17]) (.ak [Qf 48 5 3,Ql 49 48,Qm 50 12,Qa 51 4 49 50,QL 52 4 51,Q 53 (.call 238 [.t 52] [] []),Qs 4 13 53] [2,3,6,7,8,9,10,11,12,13] [2,3,13,17]))))))
 (.seq (.seq (.ak [Qm 81 11,Q 82 (.bin .geq (.t 81) (kI 0)),Qm 83 82,Qg 84 (.load true 7 (.t 2)) 83 true,Qg 85 (.load true 7 (.t 3)) 83 true,Qg 86 (.mv (.t 10)) 83 true,
   Qg 87 (.call 22 [.t 84,.t 85,.t 86] [] []) 83 true,Qg 88 (.not (.t 87)) 83 true,Q 89 (.pick (.t 83) (.t 88) (kB false)),Qm 90 89,Qg 91 (.mv (.t 12)) 90 false,
   Qg 92 (.bin .geq (.t 91) (kI 0)) 90 false,Qg 93 (.mv (.t 92)) 90 false,Qg 94 (.load true 7 (.t 3)) 93 true,Qg 95 (.load true 7 (.t 2)) 93 true,Qg 96 (.mv (.t 10)) 93 true,
   Qg 97 (.call 22 [.t 94,.t 95,.t 96] [] []) 93 true,Qg 98 (.not (.t 97)) 93 true,Qg 99 (.pick (.t 93) (.t 98) (kB false)) 90 false,Q 100 (.pick (.t 90) (kB true) (.t 99))] [2,3,6,7,8,9,13,100] [2,3,13,17])
 (.cond (.t 100) (.seq (.ak [Qm 101 6,Qf 102 1 13,Qs 1 102 101] [2,3,6,7,8,9,13] [2,3,13,17])
 (.ak [Qm 103 6,Q 104 (.bin .add (.t 103) (kI 1)),Qm 6 104] [2,3,6,7,8,9,13] [2,3,13,17])) (.skip)))
 (.shut [17] (.ak [Qm 105 7,QL 106 4 13,Q 107 (.call 462 [.t 105,.t 106] [] [(0,17)]),Qm 7 107] [2,3,6,7,8,9] [2,3,17]))))))))))
 (.ak [Qm 25 9,Q 26 (.bin .add (.t 25) (kI 1)),Qm 9 26] [2,3,6,7,8,9] [2,3,17]))
def cS.b:C:= .seq (.ak [Qv 2 0,Qv 3 1,Q 4 (.nil 4),Qi 5 0] [2,3] [2,3])
 (.seq (.ak [QL 14 7 2,QL 15 7 3,Q 16 (.call 459 [.t 14,.t 15] [] []),Qm 6 16] [2,3,6] [2,3])
 (.seq (.ak [Q 17 (.bZ 4 0 [.int .i64 0,.int .i64 0,.aN 3,.str ⟨#[]⟩] []),Qm 7 17] [2,3,6,7] [2,3,17])
 (.seq (.ak [QL 18 7 2,QL 19 7 3,Q 20 (.call 460 [.t 18,.t 19] [] []),Qm 8 20] [2,3,6,7,8] [2,3,17])
 (.seq (.seq (.ak [Qi 9 0] [2,3,6,7,8,9] [2,3,17])
 (.block 0 (.loop cS.l0)))
 (.seq (.ak [Qm 108 7,Qm 109 6,Qm 4 108,Qm 5 109] [4,5] [4,17])
 (.ret))))))
def cS.m:Fn:={np:=2,body:=cS.b,res:=[.tmp 4,.tmp 5]}
def cS.k(M:Nat→Option Body):Prop:=M 439=some (.code cS.m)∧dA.k M∧bM.k M∧bf.k M∧fq.k M∧gE.k M∧cY.k M∧ff.k M∧cQ.k M
def ep.b:C:= .seq (.ak [Qv 2 0,Qv 3 1,Q 4 (.alloc [.int .i64 0,.str ⟨#[]⟩,.int .i64 0,.int .i64 0,.int .i64 0,.aN 4,.aN 1])] [2,3,4] [2,3,4,11205,11206,12300,15300])
 (.seq (.seq (.ak [Qf 6 0 2,Ql 7 6,Qf 8 0 3,Ql 9 8,Q 10 (.bin .neq (.t 7) (.t 9))] [2,3,4,10] [2,3,4,11205,11206,12300,15300])
 (.cond (.t 10) (.seq (.ak [QL 11 7 2,Q 12 (.call 180 [.t 11] [] [(5,11205),(6,11206)]),Qs 7 4 12] [4] [4,11205,11206,12300,15300])
 (.ret)) (.skip)))
 (.seq (.gm [Qf 13 0 2,Ql 14 13,Qf 15 1 2,Ql 16 15,Qf 17 2 2,QL 18 2 17,Qf 19 6 2,Ql 20 19,Qf 21 6 3,Ql 22 21,Q 23 (.call 43 [.t 20,.t 22] [] [(0,12300)]),
   Q 24 (.build [.int .i64 0,.str ⟨#[]⟩,.int .i64 0,.int .i64 0,.int .i64 0,.aN 4,.aN 1] [(0,1,.t 14),(1,1,.t 16),(2,2,.t 18),(6,1,.t 23)]),
   Q 5 (.alloc [.int .i64 0,.str ⟨#[]⟩,.int .i64 0,.int .i64 0,.int .i64 0,.aN 4,.aN 1]),Qs 7 5 24] [[],[0],[],[2],[],[4],[],[6],[],[8],[6,7,8,9],lr 11,[],lr 13] [2,3,4,5] [2,3,4,5,11205,11206,12300,15300])
 (.seq (.seq (.ak [Qf 25 2 3,QL 26 2 25,Qf 27 2 2,QL 28 2 27,Q 29 (.call 277 [.t 26,.t 28] [] []),Qm 30 29,Qg 31 (.bH 2 (.t 2)) 30 false,Qg 32 (.load true 2 (.t 31)) 30 false,
   Qg 33 (.bH 2 (.t 3)) 30 false,Qg 34 (.load true 2 (.t 33)) 30 false,Qg 35 (.eqs false [.int,.int] (.t 32) (.t 34)) 30 false,Qg 36 (.mv (.t 35)) 30 false,
   Qg 37 (.bH 1 (.t 3)) 36 true,Qg 38 (.load false 1 (.t 37)) 36 true,Qg 39 (.bH 1 (.t 2)) 36 true,Qg 40 (.load false 1 (.t 39)) 36 true,
   Qg 41 (.bin .gtr (.t 38) (.t 40)) 36 true,Qg 42 (.pick (.t 36) (.t 41) (kB false)) 30 false,Q 43 (.pick (.t 30) (kB true) (.t 42))] [2,3,4,5,43] [2,3,4,5,11205,11206,12300,15300])
 (.cond (.t 43) (.seq (.ak [Qf 44 1 3,Ql 45 44,Qf 46 1 5,Qs 1 46 45] [2,3,4,5] [2,3,4,5,11205,11206,12300,15300])
 (.ak [Qf 47 2 3,QL 48 2 47,Qf 49 2 5,Qs 2 49 48] [2,3,4,5] [2,3,4,5,11205,11206,12300,15300])) (.skip)))
 (.seq (.ak [QL 51 7 2,QL 52 7 3,Q 53 (.call 439 [.t 51,.t 52] [] [(0,15300)]),Qm 50 53,Qx 54 0 50,Qx 55 1 50,Qf 56 5 5,Qs 1 56 54,Qf 57 4 5,Qs 1 57 55] [4,5] [4,5,11205,11206,12300,15300])
 (.seq (.ak [QL 58 7 5,Qs 7 4 58] [4] [4,11205,11206,12300,15300])
 (.ret))))))
def ep.m:Fn:={np:=2,body:=ep.b,res:=[.cell 4 true 7]}
def ep.k(M:Nat→Option Body):Prop:=M 405=some (.code ep.m)∧aU.k M∧b6.k M∧gL.k M∧cS.k M
def gi.b:C:= .seq (.ak [Q 2 (.mv (.k (.int .u8 0)))] [0] [])
 (.seq (.seq (.ak [Qm 3 0,Q 4 (.bin .lss (.t 3) (kI 10))] [0,4] [])
 (.cond (.t 4) (.seq (.ak [Qm 5 0,Q 6 (.bin .add (kI 48) (.t 5)),Q 7 (.rB .u8 (.t 6)),Qm 2 7] [2] [])
 (.ret)) (.skip)))
 (.seq (.ak [Qm 8 0,Q 9 (.bin .add (kI 97) (.t 8)),Q 10 (.bin .sub (.t 9) (kI 10)),Q 11 (.rB .u8 (.t 10)),Qm 2 11] [2] [])
 (.ret)))
def gi.m:Fn:={np:=1,body:=gi.b,res:=[.tmp 2]}
def gi.k(M:Nat→Option Body):Prop:=M 247=some (.code gi.m)
def cT.l0:C:= .seq (.seq (.ak [Qm 10 0,Q 11 (.bin .neq (.t 10) (kI 0))] [0,3,4,11] [])
 (.cond (.t 11) (.skip) (.exit 0)))
 (.block 1 (.seq (.ak [Qm 12 0,Q 13 (.bin .rem (.t 12) (kI 10)),Qm 5 13] [0,3,4,5] [])
 (.seq (.seq (.ak [Qm 14 5,Q 15 (.bin .lss (.t 14) (kI 0))] [0,3,4,5,15] [])
 (.cond (.t 15) (.ak [Qm 16 5,Q 17 (.neg (.t 16)),Qm 5 17] [0,3,4,5] []) (.skip)))
 (.seq (.ak [Qm 18 5,Q 19 (.call 247 [.t 18] [] []),Q 20 (.bZ 1 1 [.int .u8 0] [(0,.t 19)]),Q 21 (.E_ (.t 20)),Qm 22 4,Q 23 (.bin .add (.t 21) (.t 22)),Qm 4 23] [0,3,4] [])
 (.ak [Qm 24 0,Q 25 (.bin .quo (.t 24) (kI 10)),Qm 0 25] [0,3,4] [])))))
def cT.b:C:= .seq (.ak [Q 2 (.mv (.k (.str ⟨#[]⟩)))] [0] [])
 (.seq (.seq (.ak [Qm 6 0,Q 7 (.bin .eql (.t 6) (kI 0))] [0,7] [])
 (.cond (.t 7) (.seq (.ak [Q 2 (.mv (.k (.str ⟨#[48]⟩)))] [2] [])
 (.ret)) (.skip)))
 (.seq (.ak [Qm 8 0,Q 9 (.bin .lss (.t 8) (kI 0)),Qm 3 9] [0,3] [])
 (.seq (.ak [Q 4 (.mv (.k (.str ⟨#[]⟩)))] [0,3,4] [])
 (.seq (.block 0 (.loop cT.l0))
 (.seq (.seq (.ak [Qm 26 3] [4,26] [])
 (.cond (.t 26) (.seq (.ak [Qm 27 4,Q 28 (.bin .add (.k (.str ⟨#[45]⟩)) (.t 27)),Qm 2 28] [2] [])
 (.ret)) (.skip)))
 (.seq (.ak [Qm 29 4,Qm 2 29] [2] [])
 (.ret)))))))
def cT.m:Fn:={np:=1,body:=cT.b,res:=[.tmp 2]}
def cT.k(M:Nat→Option Body):Prop:=M 197=some (.code cT.m)∧gi.k M
def db.l0:C:= .seq (.seq (.ak [Qm 9 4,Q 10 (.bin .neq (.t 9) (kI 0))] [0,3,4,10] [])
 (.cond (.t 10) (.skip) (.exit 0)))
 (.seq (.block 1 (.seq (.ak [Qm 13 4,Q 14 (.bin .rem (.t 13) (kI 10)),Qm 5 14] [0,3,4,5] [])
 (.seq (.ak [Qm 15 5,Qm 16 5,Q 17 (.neg (.t 16)),Q 18 (.max (.t 15) (.t 17)),Qm 5 18] [0,3,4,5] [])
 (.ak [Qm 19 5,Qm 20 5,Q 21 (.bin .add (.t 20) (kI 1)),Q 22 (.nR (.k (.str ⟨#[48,49,50,51,52,53,54,55,56,57,97,98,99,100,101,102]⟩)) (some (.t 19)) (some (.t 21))),
   Qm 23 3,Q 24 (.bin .add (.t 22) (.t 23)),Qm 3 24] [0,3,4] []))))
 (.ak [Qm 11 4,Q 12 (.bin .quo (.t 11) (kI 10)),Qm 4 12] [0,3,4] []))
def db.b:C:= .seq (.ak [Q 2 (.mv (.k (.str ⟨#[]⟩)))] [0] [])
 (.seq (.seq (.ak [Qm 6 0,Q 7 (.bin .eql (.t 6) (kI 0))] [0,7] [])
 (.cond (.t 7) (.seq (.ak [Q 2 (.mv (.k (.str ⟨#[48]⟩)))] [2] [])
 (.ret)) (.skip)))
 (.seq (.ak [Q 3 (.mv (.k (.str ⟨#[]⟩)))] [0,3] [])
 (.seq (.seq (.ak [Qm 8 0,Qm 4 8] [0,3,4] [])
 (.block 0 (.loop db.l0)))
 (.seq (.seq (.ak [Qm 25 0,Q 26 (.bin .lss (.t 25) (kI 0))] [3,26] [])
 (.cond (.t 26) (.ak [Qm 27 3,Q 28 (.bin .add (.k (.str ⟨#[45]⟩)) (.t 27)),Qm 3 28] [3] []) (.skip)))
 (.seq (.ak [Qm 29 3,Qm 2 29] [2] [])
 (.ret))))))
def db.m:Fn:={np:=1,body:=db.b,res:=[.tmp 2]}
def db.k(M:Nat→Option Body):Prop:=M 128=some (.code db.m)
def eC.b:C:= .seq (.ak [Qv 2 0,Qb 3 false] [1,2] [2])
 (.seq (.ak [Qf 4 0 2,Ql 5 4,Ql 6 1,Q 7 (.bin .eql (.t 5) (.t 6)),Qm 3 7] [3] [])
 (.ret))
def eC.m:Fn:={np:=2,body:=eC.b,res:=[.tmp 3]}
def eC.k(M:Nat→Option Body):Prop:=M 477=some (.code eC.m)
def eD.b:C:= .seq (.ak [Qv 3 1,Qi 4 0] [0,3] [3])
 (.seq (.ak [Qm 5 0,Q 6 (.sq 477 [.t 3]),Q 7 (.call 200 [.t 5,.t 6] [] []),Qm 4 7] [4] [])
 (.ret))
def eD.m:Fn:={np:=2,body:=eD.b,res:=[.tmp 4]}
def eD.k(M:Nat→Option Body):Prop:=M 476=some (.code eD.m)∧ay.k M∧eC.k M
def aD.l0:C:= .seq (.seq (.ak [Qm 16 6,Qm 17 0,Q 18 (.len (.t 17)),Q 19 (.bin .lss (.t 16) (.t 18))] [0,1,5,6,19] [0])
 (.cond (.t 19) (.skip) (.exit 0)))
 (.seq (.block 1 (.seq (.ak [Qm 22 0,Qm 23 6,Qa 24 7 22 23,QL 25 7 24,Q 7 (.alloc [.int .i64 0,.str ⟨#[]⟩,.int .i64 0,.int .i64 0,.int .i64 0,.aN 4,.aN 1]),Qs 7 7 25] [0,1,5,6,7] [0,7])
 (.seq (.ak [Qm 26 1,QL 27 7 7,Q 28 (.nO (.t 26) [.t 27]),Q 29 (.not (.t 28))] [0,1,5,6,7,29] [0,7])
 (.cond (.t 29) (.seq (.ak [Qm 30 0,Qm 31 5,QL 32 7 7,Qa 33 7 30 31,Qs 7 33 32] [0,1,5,6] [0])
 (.ak [Qm 34 5,Q 35 (.bin .add (.t 34) (kI 1)),Qm 5 35] [0,1,5,6] [0])) (.skip)))))
 (.ak [Qm 20 6,Q 21 (.bin .add (.t 20) (kI 1)),Qm 6 21] [0,1,5,6] [0]))
def aD.b:C:= .seq (.ak [Q 4 (.nil 7)] [0,1] [0])
 (.seq (.ak [Qm 8 0,Qm 9 1,Q 10 (.call 200 [.t 8,.t 9] [] []),Qm 5 10] [0,1,5] [0])
 (.seq (.seq (.ak [Qm 11 5,Q 12 (.bin .eql (.t 11) (kI (-1)))] [0,1,5,12] [0])
 (.cond (.t 12) (.seq (.ak [Qm 13 0,Qm 4 13] [4] [0,4])
 (.ret)) (.skip)))
 (.seq (.seq (.ak [Qm 14 5,Q 15 (.bin .add (.t 14) (kI 1)),Qm 6 15] [0,1,5,6] [0])
 (.block 0 (.loop aD.l0)))
 (.seq (.ak [Qm 36 0,Qm 37 5,Q 38 (.vn 7 (.t 36) (some (.t 37)) none none),Qn (.DF [.int .i64 0,.str ⟨#[]⟩,.int .i64 0,.int .i64 0,.int .i64 0,.aN 4,.aN 1] (.t 38))] [0,5] [0])
 (.seq (.ak [Qm 39 0,Qm 40 5,Q 41 (.vn 7 (.t 39) none (some (.t 40)) none),Qm 4 41] [4] [0,4])
 (.ret))))))
def aD.m:Fn:={np:=2,body:=aD.b,res:=[.tmp 4]}
def aD.k(M:Nat→Option Body):Prop:=M 478=some (.code aD.m)∧ay.k M
def eZ.b:C:= .seq (.ak [Qv 2 0,Qb 3 false] [1,2] [2])
 (.seq (.ak [Ql 4 1,Qf 5 0 2,Ql 6 5,Q 7 (.call 156 [.t 4,.t 6] [] []),Qm 3 7] [3] [])
 (.ret))
def eZ.m:Fn:={np:=2,body:=eZ.b,res:=[.tmp 3]}
def eZ.k(M:Nat→Option Body):Prop:=M 479=some (.code eZ.m)∧aH.k M
def aq.l1:C:= .seq (.seq (.gm [Qm 18 9,Qm 19 1,Q 20 (.bin .gtr (.t 18) (.t 19)),Qm 21 20,Qg 22 (.mv (.t 3)) 21 true,Qg 23 (.mv (.t 0)) 21 true,Qg 24 (.mv (.t 9)) 21 true,
    Qg 25 (.kL 7 (.t 23) (.t 24)) 21 true,Qg 26 (.load true 7 (.t 25)) 21 true,Qg 27 (.mv (.t 0)) 21 true,Qg 28 (.mv (.t 9)) 21 true,Qg 29 (.bin .sub (.t 28) (kI 1)) 21 true,
    Qg 30 (.kL 7 (.t 27) (.t 29)) 21 true,Qg 31 (.load true 7 (.t 30)) 21 true,Qg 32 (.nO (.t 22) [.t 26,.t 31]) 21 true,Qg 33 (.bin .lss (.t 32) (kI 0)) 21 true,
    Q 34 (.pick (.t 21) (.t 33) (kB false))] [[],[],[0,1],[0,1,2],lr 4,lr 4,lr 4,lr 4++[5,6],lr 4++[5,6,7],lr 4,lr 4,lr 4++[10],lr 4++[9,10,11],lr 4++[9,10,11,12],lr 14,lr 15,lr 16] [0,1,2,3,8,9,34] [0])
 (.cond (.t 34) (.skip) (.exit 2)))
 (.seq (.block 3 (.gm [Qm 37 0,Qm 38 9,Qm 39 0,Qm 40 9,Q 41 (.bin .sub (.t 40) (kI 1)),Qm 42 0,Qm 43 9,Q 44 (.bin .sub (.t 43) (kI 1)),Qa 45 7 42 44,QL 46 7 45,Qm 47 0,Qm 48 9,Qa 49 7 47 48,
   QL 50 7 49,Qa 51 7 37 38,Qs 7 51 46,Qa 52 7 39 41,Qs 7 52 50] [[],[],[],[],[3],[],[],[6],[5,6,7],[5,6,7,8],[],[],[10,11],[10,11,12],[0,1,5,6,7,8,9,10,11,12,13],[0,1,5,6,7,8,9,10,11,12,13,14],lr 16,lr 17] [0,1,2,3,8,9] [0]))
 (.ak [Qm 35 9,Q 36 (.bin .sub (.t 35) (kI 1)),Qm 9 36] [0,1,2,3,8,9] [0]))
def aq.l0:C:= .seq (.seq (.ak [Qm 12 8,Qm 13 2,Q 14 (.bin .lss (.t 12) (.t 13))] [0,1,2,3,8,14] [0])
 (.cond (.t 14) (.skip) (.exit 0)))
 (.seq (.block 1 (.seq (.ak [Qm 17 8,Qm 9 17] [0,1,2,3,8,9] [0])
 (.block 2 (.loop aq.l1))))
 (.ak [Qm 15 8,Q 16 (.bin .add (.t 15) (kI 1)),Qm 8 16] [0,1,2,3,8] [0]))
def aq.b:C:= .seq (.ak [Qm 10 1,Q 11 (.bin .add (.t 10) (kI 1)),Qm 8 11] [0,1,2,3,8] [0])
 (.block 0 (.loop aq.l0))
def aq.m:Fn:={np:=4,body:=aq.b,res:=[]}
def aq.k(M:Nat→Option Body):Prop:=M 492=some (.code aq.m)
def aO.l0:C:= .seq (.seq (.ak [Qm 11 8,Qm 12 1,Q 13 (.bin .leq (.t 11) (.t 12))] [0,1,2,6,7,8,13] [0])
 (.cond (.t 13) (.skip) (.exit 0)))
 (.block 1 (.seq (.ak [Qm 14 0,Qm 15 7,Qm 16 8,Qm 17 2,Q 18 (.call 492 [.t 14,.t 15,.t 16,.t 17] [0] [])] [0,1,2,6,8] [0])
 (.seq (.ak [Qm 19 8,Qm 7 19] [0,1,2,6,7,8] [0])
 (.ak [Qm 20 8,Qm 21 6,Q 22 (.bin .add (.t 20) (.t 21)),Qm 8 22] [0,1,2,6,7,8] [0]))))
def aO.l2:C:= .seq (.seq (.ak [Qm 33 8,Qm 34 1,Q 35 (.bin .leq (.t 33) (.t 34))] [0,1,2,6,7,8,35] [0])
 (.cond (.t 35) (.skip) (.exit 4)))
 (.block 5 (.seq (.ak [Qm 36 0,Qm 37 7,Qm 38 7,Qm 39 6,Q 40 (.bin .add (.t 38) (.t 39)),Qm 41 8,Qm 42 2,Q 43 (.call 493 [.t 36,.t 37,.t 40,.t 41,.t 42] [0] [])] [0,1,2,6,8] [0])
 (.seq (.ak [Qm 44 8,Qm 7 44] [0,1,2,6,7,8] [0])
 (.ak [Qm 45 8,Qm 46 6,Q 47 (.bin .mul (kI 2) (.t 46)),Q 48 (.bin .add (.t 45) (.t 47)),Qm 8 48] [0,1,2,6,7,8] [0]))))
def aO.l1:C:= .seq (.seq (.ak [Qm 28 6,Qm 29 1,Q 30 (.bin .lss (.t 28) (.t 29))] [0,1,2,6,30] [0])
 (.cond (.t 30) (.skip) (.exit 2)))
 (.block 3 (.seq (.ak [Qm 31 6,Q 32 (.bin .mul (kI 2) (.t 31)),Qi 7 0,Qm 8 32] [0,1,2,6,7,8] [0])
 (.seq (.block 4 (.loop aO.l2))
 (.seq (.seq (.ak [Qm 49 7,Qm 50 6,Q 51 (.bin .add (.t 49) (.t 50)),Qm 9 51] [0,1,2,6,7,9] [0])
 (.seq (.ak [Qm 52 9,Qm 53 1,Q 54 (.bin .lss (.t 52) (.t 53))] [0,1,2,6,7,9,54] [0])
 (.cond (.t 54) (.ak [Qm 55 0,Qm 56 7,Qm 57 9,Qm 58 1,Qm 59 2,Q 60 (.call 493 [.t 55,.t 56,.t 57,.t 58,.t 59] [0] [])] [0,1,2,6] [0]) (.skip))))
 (.ak [Qm 61 6,Q 62 (.bin .mul (.t 61) (kI 2)),Qm 6 62] [0,1,2,6] [0])))))
def aO.b:C:= .seq (.ak [Qi 6 20] [0,1,2,6] [0])
 (.seq (.ak [Qm 10 6,Qi 7 0,Qm 8 10] [0,1,2,6,7,8] [0])
 (.seq (.block 0 (.loop aO.l0))
 (.seq (.ak [Qm 23 0,Qm 24 7,Qm 25 1,Qm 26 2,Q 27 (.call 492 [.t 23,.t 24,.t 25,.t 26] [0] [])] [0,1,2,6] [0])
 (.block 2 (.loop aO.l1)))))
def aO.m:Fn:={np:=3,body:=aO.b,res:=[]}
def aO.k(M:Nat→Option Body):Prop:=M 490=some (.code aO.m)∧aq.k M
def a8.b:C:= .ak [Qm 4 0,Qm 5 0,Q 6 (.len (.t 5)),Qm 7 1,Q 8 (.call 490 [.t 4,.t 6,.t 7] [0] [])] [] [0]
def a8.m:Fn:={np:=2,body:=a8.b,res:=[]}
def a8.k(M:Nat→Option Body):Prop:=M 480=some (.code a8.m)∧aO.k M
def eY.b:C:= .seq (.ak [Qv 2 0,Qv 3 1,Qi 4 0] [2,3] [2,3])
 (.seq (.ak [Qf 5 0 2,Ql 6 5,Qf 7 0 3,Ql 8 7,Q 9 (.call 457 [.t 6,.t 8] [] []),Qm 4 9] [4] [])
 (.ret))
def eY.m:Fn:={np:=2,body:=eY.b,res:=[.tmp 4]}
def eY.k(M:Nat→Option Body):Prop:=M 481=some (.code eY.m)∧eP.k M
def bd.b:C:= .seq (.ak [Qb 4 false] [0,1] [])
 (.seq (.ak [Qm 5 0,Qm 6 1,Q 7 (.call 200 [.t 5,.t 6] [] []),Q 8 (.bin .geq (.t 7) (kI 0)),Qm 4 8] [4] [])
 (.ret))
def bd.m:Fn:={np:=2,body:=bd.b,res:=[.tmp 4]}
def bd.k(M:Nat→Option Body):Prop:=M 482=some (.code bd.m)∧ay.k M
def eX.b:C:= .seq (.ak [Qv 2 0,Qb 3 false] [1,2] [2])
 (.seq (.ak [Qf 4 1 2,Ql 5 4,Qf 6 1 1,Ql 7 6,Q 8 (.bin .eql (.t 5) (.t 7)),Qm 3 8] [3] [])
 (.ret))
def eX.m:Fn:={np:=2,body:=eX.b,res:=[.tmp 3]}
def eX.k(M:Nat→Option Body):Prop:=M 483=some (.code eX.m)
def cG.b:C:= .seq (.ak [Q 4 (.mv (.k (.str ⟨#[]⟩)))] [0,1] [])
 (.seq (.ak [Qm 7 0,Qm 8 0,Q 9 (.lC (.t 8)),Q 10 (.min (kI 6) (.t 9)),Q 11 (.nR (.t 7) none (some (.t 10))),Q 12 (.bin .add (.t 11) (.k (.str ⟨#[120]⟩))),Qm 5 12] [1,5] [])
 (.seq (.seq (.ak [Qm 13 1,Q 14 (.bin .gtr (.t 13) (kI 0))] [1,5,14] [])
 (.cond (.t 14) (.seq (.ak [Qm 15 1,Q 16 (.call 128 [.t 15] [] []),Qm 6 16] [5,6] [])
 (.ak [Qm 17 5,Qm 18 6,Qm 19 6,Q 20 (.lC (.t 19)),Q 21 (.bin .sub (.t 20) (kI 5)),Q 22 (.max (kI 0) (.t 21)),Q 23 (.nR (.t 18) (some (.t 22)) none),
   Q 24 (.bin .add (.t 17) (.t 23)),Qm 5 24] [5] [])) (.skip)))
 (.seq (.ak [Qm 25 5,Qm 4 25] [4] [])
 (.ret))))
def cG.m:Fn:={np:=2,body:=cG.b,res:=[.tmp 4]}
def cG.k(M:Nat→Option Body):Prop:=M 484=some (.code cG.m)∧db.k M
def bq.l0:C:= .seq (.ak [Q 20 (.bin .lss (.t 19) (.t 18))] [0,1,5,7,8,17,18,19,20] [5,16,40,58,16200])
 (.seq (.cond (.t 20) (.skip) (.exit 0))
 (.seq (.block 1 (.seq (.ak [Qa 21 7 17 19,QL 22 7 21,Q 10 (.alloc [.int .i64 0,.str ⟨#[]⟩,.int .i64 0,.int .i64 0,.int .i64 0,.aN 4,.aN 1]),Qs 7 10 22] [0,1,5,7,8,10,17,18,19] [5,10,16,40,58,16200])
 (.seq (.seq (.ak [Qm 23 8,Qm 24 1,Qf 25 0 10,Ql 26 25,Q 27 (.nO (.t 23) [.t 24,.t 26]),Qm 11 27] [0,1,5,7,8,10,11,17,18,19] [5,10,16,40,58,16200])
 (.seq (.ak [Qm 28 11,Q 29 (.bin .geq (.t 28) (kI 0))] [0,1,5,7,8,10,11,17,18,19,29] [5,10,16,40,58,16200])
 (.cond (.t 29) (.gm [QL 30 7 10,Qm 31 1,Qm 32 11,Qa 33 7 31 32,QL 34 7 33,Q 35 (.call 401 [.t 30,.t 34] [] []),Qs 7 10 35] [[],[],[],[1,2],[1,2,3],lr 5,lr 6] [0,1,5,7,8,10,17,18,19] [5,10,16,40,58,16200]) (.skip))))
 (.ak [Qm 36 7,QL 37 7 10,Q 38 (.call 155 [.t 37] [] []),Q 39 (.bZ 7 1 [.int .i64 0,.str ⟨#[]⟩,.int .i64 0,.int .i64 0,.int .i64 0,.aN 4,.aN 1] [(0,.t 38)]),
   Q 40 (.app 7 96 (.t 36) (.t 39)),Qm 7 40] [0,1,5,7,8,17,18,19] [5,16,40,58,16200]))))
 (.ak [Q 41 (.bin .add (.t 19) (kI 1)),Qm 19 41] [0,1,5,7,8,17,18,19] [5,16,40,58,16200])))
def bq.l1:C:= .seq (.ak [Q 45 (.bin .lss (.t 44) (.t 43))] [0,5,7,8,42,43,44,45] [5,16,40,58,16200])
 (.seq (.cond (.t 45) (.skip) (.exit 2))
 (.seq (.block 3 (.seq (.ak [Qa 46 7 42 44,QL 47 7 46,Q 13 (.alloc [.int .i64 0,.str ⟨#[]⟩,.int .i64 0,.int .i64 0,.int .i64 0,.aN 4,.aN 1]),Qs 7 13 47] [0,5,7,8,13,42,43,44] [5,13,16,40,58,16200])
 (.seq (.ak [Qm 48 8,Qm 49 0,Qf 50 0 13,Ql 51 50,Q 52 (.nO (.t 48) [.t 49,.t 51]),Q 53 (.bin .lss (.t 52) (kI 0))] [0,5,7,8,13,42,43,44,53] [5,13,16,40,58,16200])
 (.cond (.t 53) (.ak [Qm 54 7,QL 55 7 13,Q 56 (.call 155 [.t 55] [] []),Q 57 (.bZ 7 1 [.int .i64 0,.str ⟨#[]⟩,.int .i64 0,.int .i64 0,.int .i64 0,.aN 4,.aN 1] [(0,.t 56)]),
   Q 58 (.app 7 96 (.t 54) (.t 57)),Qm 7 58] [0,5,7,8,42,43,44] [5,16,40,58,16200]) (.skip)))))
 (.ak [Q 59 (.bin .add (.t 44) (kI 1)),Qm 44 59] [0,5,7,8,42,43,44] [5,16,40,58,16200])))
def bq.l2:C:= .seq (.ak [Q 68 (.bin .lss (.t 67) (.t 66))] [7,65,66,67,68] [16,40,58,16200])
 (.seq (.cond (.t 68) (.skip) (.exit 4))
 (.seq (.block 5 (.seq (.ak [Qm 69 67,Qa 70 7 65 67,QL 71 7 70,Q 15 (.alloc [.int .i64 0,.str ⟨#[]⟩,.int .i64 0,.int .i64 0,.int .i64 0,.aN 4,.aN 1]),Qm 14 69,Qs 7 15 71] [7,14,15,65,66,67] [15,16,40,58,16200])
 (.seq (.ak [Qm 72 7,Qm 73 14,Q 74 (.vn 7 (.t 72) none (some (.t 73)) none),Q 75 (.sq 483 [.t 15]),Q 76 (.call 482 [.t 74,.t 75] [] [])] [7,14,15,65,66,67,76] [15,16,40,58,16200])
 (.cond (.t 76) (.ak [Qm 77 7,Qm 78 14,Qf 79 1 15,Ql 80 79,Qf 81 0 15,Ql 82 81,Q 83 (.call 484 [.t 80,.t 82] [] []),Qa 84 7 77 78,Qf 85 1 84,Qs 1 85 83] [7,65,66,67] [16,40,58,16200]) (.skip)))))
 (.ak [Q 86 (.bin .add (.t 67) (kI 1)),Qm 67 86] [7,65,66,67] [16,40,58,16200])))
def bq.b:C:= .seq (.ak [Qv 5 2,Q 6 (.nil 7)] [0,1,5] [5])
 (.seq (.ak [Q 16 (.bZ 7 0 [.int .i64 0,.str ⟨#[]⟩,.int .i64 0,.int .i64 0,.int .i64 0,.aN 4,.aN 1] []),Qm 7 16] [0,1,5,7] [5,16,40,58,16200])
 (.seq (.ak [Q 8 (.mv (.fn 476))] [0,1,5,7,8] [5,16,40,58,16200])
 (.seq (.seq (.ak [Qm 17 0,Q 18 (.len (.t 17)),Qi 19 0] [0,1,5,7,8,17,18,19] [5,16,40,58,16200])
 (.block 0 (.loop bq.l0)))
 (.seq (.seq (.ak [Qm 42 1,Q 43 (.len (.t 42)),Qi 44 0] [0,5,7,8,42,43,44] [5,16,40,58,16200])
 (.block 2 (.loop bq.l1)))
 (.seq (.shut [5] (.ak [Qm 60 7,Q 61 (.sq 479 [.t 5]),Q 62 (.call 478 [.t 60,.t 61] [0] [(0,16200)]),Qm 7 62] [7] [16,40,58,16200]))
 (.seq (.ak [Qm 63 7,Q 64 (.call 480 [.t 63,.fn 481] [0] [])] [7] [16,40,58,16200])
 (.seq (.seq (.ak [Qm 65 7,Q 66 (.len (.t 65)),Qi 67 0] [7,65,66,67] [16,40,58,16200])
 (.block 4 (.loop bq.l2)))
 (.seq (.ak [Qm 87 7,Qm 6 87] [6] [6,16,40,58,16200])
 (.ret)))))))))
def bq.m:Fn:={np:=3,body:=bq.b,res:=[.tmp 6]}
def bq.k(M:Nat→Option Body):Prop:=M 467=some (.code bq.m)∧cq.k M∧gn.k M∧eD.k M∧aD.k M∧eZ.k M∧a8.k M∧eY.k M∧bd.k M∧eX.k M∧cG.k M
def bC.l1:C:= .seq (.ak [Q 49 (.bin .lss (.t 48) (.t 47))] [4,6,7,8,9,10,37,38,39,46,47,48,49] [4,6,9,35,44,60,73,11900,13300])
 (.seq (.cond (.t 49) (.skip) (.exit 2))
 (.seq (.block 3 (.seq (.ak [Qa 50 4 46 48,QL 51 4 50,Q 12 (.alloc [.int .i64 0,.int .i64 0,.aN 3,.str ⟨#[]⟩]),Qs 4 12 51] [4,6,7,8,9,10,12,37,38,39,46,47,48] [4,6,9,12,35,44,60,73,11900,13300])
 (.seq (.ak [Qm 52 7,Qf 53 0 12,Ql 54 53,Q 55 (.call 156 [.t 52,.t 54] [] []),Q 56 (.not (.t 55))] [4,6,7,8,9,10,12,37,38,39,46,47,48,56] [4,6,9,12,35,44,60,73,11900,13300])
 (.cond (.t 56) (.ak [Qm 57 10,QL 58 4 12,Q 59 (.bZ 4 1 [.int .i64 0,.int .i64 0,.aN 3,.str ⟨#[]⟩] [(0,.t 58)]),Q 60 (.app 4 56 (.t 57) (.t 59)),Qm 10 60] [4,6,7,8,9,10,37,38,39,46,47,48] [4,6,9,35,44,60,73,11900,13300]) (.skip)))))
 (.ak [Q 61 (.bin .add (.t 48) (kI 1)),Qm 48 61] [4,6,7,8,9,10,37,38,39,46,47,48] [4,6,9,35,44,60,73,11900,13300])))
def bC.l2:C:= .seq (.ak [Q 66 (.bin .lss (.t 65) (.t 64))] [4,6,7,8,10,37,38,39,63,64,65,66] [4,6,35,44,60,73,11900,13300])
 (.seq (.cond (.t 66) (.skip) (.exit 4))
 (.seq (.block 5 (.seq (.ak [Qa 67 4 63 65,QL 68 4 67,Q 14 (.alloc [.int .i64 0,.int .i64 0,.aN 3,.str ⟨#[]⟩]),Qs 4 14 68] [4,6,7,8,10,14,37,38,39,63,64,65] [4,6,14,35,44,60,73,11900,13300])
 (.ak [Qm 69 7,Qf 70 0 14,Ql 71 70,Q 72 (.bZ 1 1 [.int .i64 0] [(0,.t 71)]),Q 73 (.app 1 8 (.t 69) (.t 72)),Qm 7 73] [4,6,7,8,10,37,38,39,63,64,65] [4,6,35,44,60,73,11900,13300])))
 (.ak [Q 74 (.bin .add (.t 65) (kI 1)),Qm 65 74] [4,6,7,8,10,37,38,39,63,64,65] [4,6,35,44,60,73,11900,13300])))
def bC.l0:C:= .seq (.ak [Q 40 (.bin .lss (.t 39) (.t 38))] [4,6,7,37,38,39,40] [4,6,35,73,11900,13300])
 (.seq (.cond (.t 40) (.skip) (.exit 0))
 (.seq (.block 1 (.seq (.ak [Qm 41 39,Qa 42 7 37 39,QL 43 7 42,Q 9 (.alloc [.int .i64 0,.str ⟨#[]⟩,.int .i64 0,.int .i64 0,.int .i64 0,.aN 4,.aN 1]),Qm 8 41,Qs 7 9 43] [4,6,7,8,9,37,38,39] [4,6,9,35,73,11900,13300])
 (.seq (.ak [Q 44 (.bZ 4 0 [.int .i64 0,.int .i64 0,.aN 3,.str ⟨#[]⟩] []),Qm 10 44] [4,6,7,8,9,10,37,38,39] [4,6,9,35,44,60,73,11900,13300])
 (.seq (.seq (.ak [Qf 45 5 9,Ql 46 45,Q 47 (.len (.t 46)),Qi 48 0] [4,6,7,8,9,10,37,38,39,46,47,48] [4,6,9,35,44,60,73,11900,13300])
 (.block 2 (.loop bC.l1)))
 (.seq (.seq (.ak [Qf 62 5 9,Ql 63 62,Q 64 (.len (.t 63)),Qi 65 0] [4,6,7,8,10,37,38,39,63,64,65] [4,6,35,44,60,73,11900,13300])
 (.block 4 (.loop bC.l2)))
 (.shut [44,60] (.ak [Qf 75 2 6,Ql 76 75,Qm 77 8,Qm 78 10,Qa 79 7 76 77,Qf 80 5 79,Qs 1 80 78] [4,6,7,37,38,39] [4,6,35,73,11900,13300])))))))
 (.ak [Q 81 (.bin .add (.t 39) (kI 1)),Qm 39 81] [4,6,7,37,38,39] [4,6,35,73,11900,13300])))
def bC.b:C:= .seq (.ak [Qv 2 0,Qv 3 1,Q 4 (.alloc [.int .i64 0,.int .i64 0,.aN 7,.aN 1])] [2,3,4] [2,3,4,11900,13300])
 (.seq (.ak [Qf 15 3 2,Ql 16 15,Qf 17 3 3,Ql 18 17,Q 19 (.call 44 [.t 16,.t 18] [] [(0,11900)]),Qm 5 19] [2,3,4,5] [2,3,4,11900,13300])
 (.seq (.shut [11900] (.gm [Qf 20 0 2,Ql 21 20,Qf 22 1 2,Ql 23 22,Qf 24 1 3,Ql 25 24,Q 26 (.max (.t 23) (.t 25)),Qm 27 5,Qf 28 2 2,Ql 29 28,Qf 30 2 3,Ql 31 30,Qm 32 5,
   Q 33 (.call 467 [.t 29,.t 31,.t 32] [] [(0,13300)]),Q 34 (.build [.int .i64 0,.int .i64 0,.aN 7,.aN 1] [(0,1,.t 21),(1,1,.t 26),(3,1,.t 27),(2,1,.t 33)]),
   Q 6 (.alloc [.int .i64 0,.int .i64 0,.aN 7,.aN 1]),Qs 4 6 34] [[],[0],[],[2],[],[4],[2,3,4,5],[],[],[8],[],[10],[],[8,9,10,11,12],lr 14,[],lr 16] [4,6] [4,6,11900,13300]))
 (.seq (.ak [Q 35 (.bZ 1 0 [.int .i64 0] []),Qm 7 35] [4,6,7] [4,6,35,73,11900,13300])
 (.seq (.seq (.ak [Qf 36 2 6,Ql 37 36,Q 38 (.len (.t 37)),Qi 39 0] [4,6,7,37,38,39] [4,6,35,73,11900,13300])
 (.block 0 (.loop bC.l0)))
 (.seq (.ak [QL 82 4 6,Qs 4 4 82] [4] [4,11900,13300])
 (.ret))))))
def bC.m:Fn:={np:=2,body:=bC.b,res:=[.cell 4 true 4]}
def bC.k(M:Nat→Option Body):Prop:=M 447=some (.code bC.m)∧fh.k M∧aH.k M∧bq.k M
def eU.b:C:= .seq (.ak [Qv 2 0,Qv 3 1,Qb 4 false] [2,3] [2,3])
 (.seq (.ak [QL 5 4 2,Q 6 (.call 150 [.t 5] [] []),Qm 7 6,Qg 8 (.load true 4 (.t 3)) 7 true,Qg 9 (.call 150 [.t 8] [] []) 7 true,Q 10 (.pick (.t 7) (.t 9) (kB false)),Qm 11 10,
   Qg 12 (.load true 4 (.t 2)) 11 true,Qg 13 (.load true 4 (.t 3)) 11 true,Qg 14 (.call 447 [.t 12,.t 13] [] []) 11 true,Qg 15 (.call 150 [.t 14] [] []) 11 true,
   Q 16 (.pick (.t 11) (.t 15) (kB false)),Qm 4 16] [4] [])
 (.ret))
def eU.m:Fn:={np:=2,body:=eU.b,res:=[.tmp 4]}
def eU.k(M:Nat→Option Body):Prop:=M 433=some (.code eU.m)∧aJ.k M∧bC.k M
def fH.l0:C:= .seq (.seq (.ak [Qm 6 5,Qm 7 0,Q 8 (.len (.t 7)),Q 9 (.bin .lss (.t 6) (.t 8))] [0,1,5,9] [])
 (.cond (.t 9) (.skip) (.exit 0)))
 (.seq (.block 1 (.seq (.ak [Qm 12 0,Qm 13 5,Qa 14 7 12 13,Qf 15 0 14,Ql 16 15,Qm 17 1,Q 18 (.bin .eql (.t 16) (.t 17))] [0,1,5,18] [])
 (.cond (.t 18) (.seq (.ak [Qm 19 5,Qm 4 19] [4] [])
 (.ret)) (.skip))))
 (.ak [Qm 10 5,Q 11 (.bin .add (.t 10) (kI 1)),Qm 5 11] [0,1,5] []))
def fH.b:C:= .seq (.ak [Qi 4 0] [0,1] [])
 (.seq (.seq (.ak [Qi 5 0] [0,1,5] [])
 (.block 0 (.loop fH.l0)))
 (.seq (.ak [Qi 4 (-1)] [4] [])
 (.ret)))
def fH.m:Fn:={np:=2,body:=fH.b,res:=[.tmp 4]}
def fH.k(M:Nat→Option Body):Prop:=M 474=some (.code fH.m)
def cv.b:C:= .seq (.ak [Q 4 (.mv (.k (.str ⟨#[]⟩)))] [0,1] [])
 (.seq (.ak [Qm 7 0,Qm 5 7] [1,5] [])
 (.seq (.seq (.ak [Qm 8 5,Q 9 (.lC (.t 8)),Q 10 (.bin .gtr (.t 9) (kI 6))] [1,5,10] [])
 (.cond (.t 10) (.ak [Qm 11 5,Q 12 (.nR (.t 11) none (some (kI 6))),Qm 5 12] [1,5] []) (.skip)))
 (.seq (.ak [Q 6 (.mv (.k (.str ⟨#[]⟩)))] [1,5,6] [])
 (.seq (.seq (.ak [Qm 13 1,Q 14 (.bin .gtr (.t 13) (kI 0))] [1,5,6,14] [])
 (.cond (.t 14) (.ak [Qm 15 1,Q 16 (.call 197 [.t 15] [] []),Qm 6 16] [5,6] []) (.skip)))
 (.seq (.seq (.ak [Qm 17 6,Q 18 (.lC (.t 17)),Q 19 (.bin .gtr (.t 18) (kI 5))] [5,6,19] [])
 (.cond (.t 19) (.ak [Qm 20 6,Qm 21 6,Q 22 (.lC (.t 21)),Q 23 (.bin .sub (.t 22) (kI 5)),Q 24 (.nR (.t 20) (some (.t 23)) none),Qm 6 24] [5,6] []) (.skip)))
 (.seq (.ak [Qm 25 5,Q 26 (.bin .add (.t 25) (.k (.str ⟨#[120]⟩))),Qm 27 6,Q 28 (.bin .add (.t 26) (.t 27)),Qm 4 28] [4] [])
 (.ret)))))))
def cv.m:Fn:={np:=2,body:=cv.b,res:=[.tmp 4]}
def cv.k(M:Nat→Option Body):Prop:=M 475=some (.code cv.m)∧cT.k M
def aY.l0:C:= .seq (.seq (.ak [Qm 17 8,Qm 18 0,Q 19 (.len (.t 18)),Q 20 (.bin .lss (.t 17) (.t 19))] [0,1,2,7,8,20] [16])
 (.cond (.t 20) (.skip) (.exit 0)))
 (.seq (.block 1 (.seq (.ak [Qm 23 7,Qm 24 0,Qm 25 8,Qa 26 7 24 25,Qf 27 0 26,Ql 28 27,Q 29 (.call 132 [.t 23,.t 28] [] []),Q 30 (.not (.t 29))] [0,1,2,7,8,30] [16])
 (.cond (.t 30) (.ak [Qm 31 7,Qm 32 0,Qm 33 8,Qa 34 7 32 33,Qf 35 0 34,Ql 36 35,Q 37 (.call 133 [.t 31,.t 36] [] [(0,16)]),Qm 7 37] [0,1,2,7,8] [16]) (.skip))))
 (.ak [Qm 21 8,Q 22 (.bin .add (.t 21) (kI 1)),Qm 8 22] [0,1,2,7,8] [16]))
def aY.l1:C:= .seq (.seq (.ak [Qm 38 9,Qm 39 1,Q 40 (.len (.t 39)),Q 41 (.bin .lss (.t 38) (.t 40))] [0,1,2,7,9,41] [16])
 (.cond (.t 41) (.skip) (.exit 2)))
 (.seq (.block 3 (.seq (.ak [Qm 44 7,Qm 45 1,Qm 46 9,Qa 47 7 45 46,Qf 48 0 47,Ql 49 48,Q 50 (.call 132 [.t 44,.t 49] [] []),Q 51 (.not (.t 50))] [0,1,2,7,9,51] [16])
 (.cond (.t 51) (.ak [Qm 52 7,Qm 53 1,Qm 54 9,Qa 55 7 53 54,Qf 56 0 55,Ql 57 56,Q 58 (.call 133 [.t 52,.t 57] [] [(0,16)]),Qm 7 58] [0,1,2,7,9] [16]) (.skip))))
 (.ak [Qm 42 9,Q 43 (.bin .add (.t 42) (kI 1)),Qm 9 43] [0,1,2,7,9] [16]))
def aY.l2:C:= .seq (.seq (.ak [Qm 60 11,Qm 61 7,Q 62 (.len (.t 61)),Q 63 (.bin .lss (.t 60) (.t 62))] [0,1,2,7,10,11,63] [16,59,91,110,121])
 (.cond (.t 63) (.skip) (.exit 4)))
 (.seq (.block 5 (.seq (.seq (.ak [Qm 66 2,Qm 67 7,Qm 68 11,Qa 69 1 67 68,Ql 70 69,Q 71 (.call 132 [.t 66,.t 70] [] [])] [0,1,2,7,10,11,71] [16,59,91,110,121])
 (.cond (.t 71) (.exit 5) (.skip)))
 (.seq (.ak [Qm 72 0,Qm 73 7,Qm 74 11,Qa 75 1 73 74,Ql 76 75,Q 77 (.call 474 [.t 72,.t 76] [] []),Qm 12 77] [0,1,2,7,10,11,12] [16,59,91,110,121])
 (.seq (.ak [Qm 78 1,Qm 79 7,Qm 80 11,Qa 81 1 79 80,Ql 82 81,Q 83 (.call 474 [.t 78,.t 82] [] []),Qm 13 83] [0,1,2,7,10,11,12,13] [16,59,91,110,121])
 (.block 6 (.seq (.ak [Qm 93 12,Q 94 (.bin .geq (.t 93) (kI 0)),Qm 95 94,Qg 96 (.mv (.t 13)) 95 true,Qg 97 (.bin .geq (.t 96) (kI 0)) 95 true,Q 98 (.pick (.t 95) (.t 97) (kB false)),Qm 92 98] [0,1,2,7,10,11,12,13,92] [16,59,91,110,121])
 (.cond (.t 92) (.gm [Qm 99 10,Qm 100 0,Qm 101 12,Qa 102 7 100 101,QL 103 7 102,Qm 104 1,Qm 105 13,Qa 106 7 104 105,QL 107 7 106,Q 108 (.call 405 [.t 103,.t 107] [] []),
   Q 109 (.bZ 7 1 [.int .i64 0,.str ⟨#[]⟩,.int .i64 0,.int .i64 0,.int .i64 0,.aN 4,.aN 1] [(0,.t 108)]),Q 110 (.app 7 96 (.t 99) (.t 109)),Qm 10 110] [[],[],[],[1,2],[1,2,3],[],[],[5,6],[5,6,7],[1,2,3,4,5,6,7,8],[1,2,3,4,5,6,7,8,9],lr 11,lr 12] [0,1,2,7,10,11] [16,59,91,110,121]) (.seq (.ak [Qm 112 12,Q 113 (.bin .geq (.t 112) (kI 0)),Qm 111 113] [0,1,2,7,10,11,12,13,111] [16,59,91,110,121])
 (.cond (.t 111) (.ak [Qm 114 10,Qm 115 0,Qm 116 12,Qa 117 7 115 116,QL 118 7 117,Q 119 (.call 180 [.t 118] [] []),
   Q 120 (.bZ 7 1 [.int .i64 0,.str ⟨#[]⟩,.int .i64 0,.int .i64 0,.int .i64 0,.aN 4,.aN 1] [(0,.t 119)]),Q 121 (.app 7 96 (.t 114) (.t 120)),Qm 10 121] [0,1,2,7,10,11] [16,59,91,110,121]) (.ak [Qm 84 10,Qm 85 1,Qm 86 13,Qa 87 7 85 86,QL 88 7 87,Q 89 (.call 180 [.t 88] [] []),
   Q 90 (.bZ 7 1 [.int .i64 0,.str ⟨#[]⟩,.int .i64 0,.int .i64 0,.int .i64 0,.aN 4,.aN 1] [(0,.t 89)]),Q 91 (.app 7 96 (.t 84) (.t 90)),Qm 10 91] [0,1,2,7,10,11] [16,59,91,110,121]))))))))))
 (.ak [Qm 64 11,Q 65 (.bin .add (.t 64) (kI 1)),Qm 11 65] [0,1,2,7,10,11] [16,59,91,110,121]))
def aY.l4:C:= .seq (.seq (.ak [Qm 128 15,Qm 129 14,Q 130 (.bin .lss (.t 128) (.t 129))] [10,14,15,130] [59,91,110,121])
 (.cond (.t 130) (.skip) (.exit 9)))
 (.seq (.block 10 (.seq (.gm [Qm 133 10,Qm 134 15,Qa 135 7 133 134,Qf 136 1 135,Ql 137 136,Qm 138 10,Qm 139 14,Qa 140 7 138 139,Qf 141 1 140,Ql 142 141,Q 143 (.bin .eql (.t 137) (.t 142))] [[],[],[0,1],[0,1,2],lr 4,[],[],[5,6],[5,6,7],[5,6,7,8],lr 10] [10,14,15,143] [59,91,110,121])
 (.cond (.t 143) (.seq (.gm [Qm 144 10,Qm 145 14,Qm 146 10,Qm 147 14,Qa 148 7 146 147,Qf 149 1 148,Ql 150 149,Qm 151 10,Qm 152 14,Qa 153 7 151 152,Qf 154 0 153,Ql 155 154,
   Q 156 (.call 475 [.t 150,.t 155] [] []),Qa 157 7 144 145,Qf 158 1 157,Qs 1 158 156] [[],[],[],[],[2,3],[2,3,4],[2,3,4,5],[],[],[7,8],[7,8,9],[7,8,9,10],[2,3,4,5,6,7,8,9,10,11],lr 13,lr 14,lr 15] [10,14] [59,91,110,121])
 (.exit 9)) (.skip))))
 (.ak [Qm 131 15,Q 132 (.bin .add (.t 131) (kI 1)),Qm 15 132] [10,14,15] [59,91,110,121]))
def aY.l3:C:= .seq (.seq (.ak [Qm 122 14,Qm 123 10,Q 124 (.len (.t 123)),Q 125 (.bin .lss (.t 122) (.t 124))] [10,14,125] [59,91,110,121])
 (.cond (.t 125) (.skip) (.exit 7)))
 (.seq (.block 8 (.seq (.ak [Qi 15 0] [10,14,15] [59,91,110,121])
 (.block 9 (.loop aY.l4))))
 (.ak [Qm 126 14,Q 127 (.bin .add (.t 126) (kI 1)),Qm 14 127] [10,14] [59,91,110,121]))
def aY.b:C:= .seq (.ak [Q 6 (.nil 7)] [0,1,2] [])
 (.seq (.ak [Q 16 (.bZ 1 0 [.int .i64 0] []),Qm 7 16] [0,1,2,7] [16])
 (.seq (.seq (.ak [Qi 8 0] [0,1,2,7,8] [16])
 (.block 0 (.loop aY.l0)))
 (.seq (.seq (.ak [Qi 9 0] [0,1,2,7,9] [16])
 (.block 2 (.loop aY.l1)))
 (.seq (.ak [Q 59 (.bZ 7 0 [.int .i64 0,.str ⟨#[]⟩,.int .i64 0,.int .i64 0,.int .i64 0,.aN 4,.aN 1] []),Qm 10 59] [0,1,2,7,10] [16,59,91,110,121])
 (.seq (.seq (.ak [Qi 11 0] [0,1,2,7,10,11] [16,59,91,110,121])
 (.block 4 (.loop aY.l2)))
 (.seq (.seq (.ak [Qi 14 0] [10,14] [59,91,110,121])
 (.block 7 (.loop aY.l3)))
 (.seq (.ak [Qm 159 10,Qm 6 159] [6] [6,59,91,110,121])
 (.ret))))))))
def aY.m:Fn:={np:=3,body:=aY.b,res:=[.tmp 6]}
def aY.k(M:Nat→Option Body):Prop:=M 466=some (.code aY.m)∧bf.k M∧bX.k M∧b6.k M∧ep.k M∧fH.k M∧cv.k M
def bI.l1:C:= .seq (.seq (.ak [Qm 46 9,Qf 47 2 5,Ql 48 47,Qm 49 7,Qa 50 7 48 49,Qf 51 5 50,Ql 52 51,Q 53 (.len (.t 52)),Q 54 (.bin .lss (.t 46) (.t 53))] [4,5,6,7,8,9,54] [4,5,37,45,74,79,11900,13500])
 (.cond (.t 54) (.skip) (.exit 2)))
 (.seq (.block 3 (.seq (.ak [Qf 57 2 5,Ql 58 57,Qm 59 7,Qa 60 7 58 59,Qf 61 5 60,Ql 62 61,Qm 63 9,Qa 64 4 62 63,QL 65 4 64,Q 10 (.alloc [.int .i64 0,.int .i64 0,.aN 3,.str ⟨#[]⟩]),Qs 4 10 65] [4,5,6,7,8,9,10] [4,5,10,37,45,74,79,11900,13500])
 (.seq (.ak [Qm 66 6,Qf 67 0 10,Ql 68 67,Q 69 (.call 132 [.t 66,.t 68] [] []),Q 70 (.not (.t 69))] [4,5,6,7,8,9,10,70] [4,5,10,37,45,74,79,11900,13500])
 (.cond (.t 70) (.seq (.ak [Qm 71 8,QL 72 4 10,Q 73 (.bZ 4 1 [.int .i64 0,.int .i64 0,.aN 3,.str ⟨#[]⟩] [(0,.t 72)]),Q 74 (.app 4 56 (.t 71) (.t 73)),Qm 8 74] [4,5,6,7,8,9,10] [4,5,10,37,45,74,79,11900,13500])
 (.ak [Qm 75 6,Qf 76 0 10,Ql 77 76,Q 78 (.bZ 1 1 [.int .i64 0] [(0,.t 77)]),Q 79 (.app 1 8 (.t 75) (.t 78)),Qm 6 79] [4,5,6,7,8,9] [4,5,37,45,74,79,11900,13500])) (.skip)))))
 (.ak [Qm 55 9,Q 56 (.bin .add (.t 55) (kI 1)),Qm 9 56] [4,5,6,7,8,9] [4,5,37,45,74,79,11900,13500]))
def bI.l0:C:= .seq (.seq (.ak [Qm 38 7,Qf 39 2 5,Ql 40 39,Q 41 (.len (.t 40)),Q 42 (.bin .lss (.t 38) (.t 41))] [4,5,6,7,42] [4,5,37,79,11900,13500])
 (.cond (.t 42) (.skip) (.exit 0)))
 (.seq (.block 1 (.seq (.ak [Q 45 (.bZ 4 0 [.int .i64 0,.int .i64 0,.aN 3,.str ⟨#[]⟩] []),Qm 8 45] [4,5,6,7,8] [4,5,37,45,74,79,11900,13500])
 (.seq (.seq (.ak [Qi 9 0] [4,5,6,7,8,9] [4,5,37,45,74,79,11900,13500])
 (.block 2 (.loop bI.l1)))
 (.shut [45,74] (.ak [Qf 80 2 5,Ql 81 80,Qm 82 7,Qm 83 8,Qa 84 7 81 82,Qf 85 5 84,Qs 1 85 83] [4,5,6,7] [4,5,37,79,11900,13500])))))
 (.ak [Qm 43 7,Q 44 (.bin .add (.t 43) (kI 1)),Qm 7 44] [4,5,6,7] [4,5,37,79,11900,13500]))
def bI.b:C:= .seq (.ak [Qv 2 0,Qv 3 1,Q 4 (.alloc [.int .i64 0,.int .i64 0,.aN 7,.aN 1])] [2,3,4] [2,3,4,11900,13500])
 (.seq (.gm [Qf 11 0 2,Ql 12 11,Qf 13 1 2,Ql 14 13,Qf 15 3 2,Ql 16 15,Qf 17 3 3,Ql 18 17,Q 19 (.call 43 [.t 16,.t 18] [] [(0,11900)]),
   Q 20 (.build [.int .i64 0,.int .i64 0,.aN 7,.aN 1] [(0,1,.t 12),(1,1,.t 14),(3,1,.t 19)]),Q 5 (.alloc [.int .i64 0,.int .i64 0,.aN 7,.aN 1]),Qs 4 5 20] [[],[0],[],[2],[],[4],[],[6],[4,5,6,7],lr 9,[],lr 11] [2,3,4,5] [2,3,4,5,11900,13500])
 (.seq (.seq (.ak [Qf 21 1 3,Ql 22 21,Qf 23 1 2,Ql 24 23,Q 25 (.bin .gtr (.t 22) (.t 24))] [2,3,4,5,25] [2,3,4,5,11900,13500])
 (.cond (.t 25) (.ak [Qf 26 1 3,Ql 27 26,Qf 28 1 5,Qs 1 28 27] [2,3,4,5] [2,3,4,5,11900,13500]) (.skip)))
 (.seq (.shut [11900] (.ak [Qf 29 2 2,Ql 30 29,Qf 31 2 3,Ql 32 31,Qf 33 3 5,Ql 34 33,Q 35 (.call 466 [.t 30,.t 32,.t 34] [] [(0,13500)]),Qf 36 2 5,Qs 1 36 35] [4,5] [4,5,11900,13500]))
 (.seq (.ak [Q 37 (.bZ 1 0 [.int .i64 0] []),Qm 6 37] [4,5,6] [4,5,37,79,11900,13500])
 (.seq (.seq (.ak [Qi 7 0] [4,5,6,7] [4,5,37,79,11900,13500])
 (.block 0 (.loop bI.l0)))
 (.seq (.ak [QL 86 4 5,Qs 4 4 86] [4] [4,11900,13500])
 (.ret)))))))
def bI.m:Fn:={np:=2,body:=bI.b,res:=[.cell 4 true 4]}
def bI.k(M:Nat→Option Body):Prop:=M 446=some (.code bI.m)∧aU.k M∧bf.k M∧aY.k M
def eS.b:C:= .seq (.ak [Qv 2 0,Qv 3 1,Qb 4 false] [2,3] [2,3])
 (.seq (.ak [QL 5 4 2,Q 6 (.call 149 [.t 5] [] []),Qm 7 6,Qg 8 (.load true 4 (.t 3)) 7 true,Qg 9 (.call 149 [.t 8] [] []) 7 true,Q 10 (.pick (.t 7) (.t 9) (kB false)),Qm 11 10,
   Qg 12 (.load true 4 (.t 2)) 11 true,Qg 13 (.load true 4 (.t 3)) 11 true,Qg 14 (.call 446 [.t 12,.t 13] [] []) 11 true,Qg 15 (.call 149 [.t 14] [] []) 11 true,
   Q 16 (.pick (.t 11) (.t 15) (kB false)),Qm 4 16] [4] [])
 (.ret))
def eS.m:Fn:={np:=2,body:=eS.b,res:=[.tmp 4]}
def eS.k(M:Nat→Option Body):Prop:=M 432=some (.code eS.m)∧aI.k M∧bI.k M
def iu.b:C:= .seq (.ak [Qv 2 0,Qb 3 false] [1,2] [2])
 (.seq (.ak [Qf 4 0 2,Ql 5 4,Ql 6 1,Q 7 (.bin .eql (.t 5) (.t 6)),Qm 3 7] [3] [])
 (.ret))
def iu.m:Fn:={np:=2,body:=iu.b,res:=[.tmp 3]}
def iu.k(M:Nat→Option Body):Prop:=M 199=some (.code iu.m)
def gf.b:C:= .seq (.ak [Qv 2 0,Qv 3 1,Qi 4 0] [2,3] [2,3])
 (.seq (.ak [Qf 5 2 2,Ql 6 5,Q 7 (.sq 199 [.t 3]),Q 8 (.call 200 [.t 6,.t 7] [] []),Qm 4 8] [4] [])
 (.ret))
def gf.m:Fn:={np:=2,body:=gf.b,res:=[.tmp 4]}
def gf.k(M:Nat→Option Body):Prop:=M 95=some (.code gf.m)∧iu.k M∧ay.k M
end Mx
namespace Mx
open Go
variable {P:Program} {F:Nat→FuncId}
def A2(as:List V)(lent:List (Nat×Ob)):Option (V×List (Nat×Ob)):=match as,lent with
 |[.c (.row 0 0 0 len),.c (.int .i64 i),.c (.row 2 2 0 1)],[(0,ob),(2,ob2)]=>
  if(ob.sz=7∧ob.bx=false∧len≤ob.rows.length∧0≤i∧i≤(len:Int)∧len≤1048576)∧ob2.sz=7∧ob2.bx=false∧ob2.rows.length=1 then
   some (.c (.sl true 7 (ob.rows.take i.toNat++ob2.rows++(ob.rows.take len).drop i.toNat)),[(2,ob2)]) else none
 |_,_=>none
theorem kO{b:Nat}{e:TypeId}{fr:Nat×Nat}:∀(vs:List Value) (o:Nat) (cs:Array Value) (w:World),w.heap[b]? =some (.cells cs e fr)→o+vs.length≤cs.size→
  ∃cs',(w.setCells b o vs).heap[b]? =some (.cells cs' e fr)∧cs'.size=cs.size∧(∀q,cs'[q]? =if o≤q∧q<o+vs.length then vs[q-o]? else cs[q]?)∧
   (w.setCells b o vs).os=w.os∧(w.setCells b o vs).tape=w.tape∧(w.setCells b o vs).output=w.output∧(w.setCells b o vs).heap.size=w.heap.size∧∀k,k≠b→(w.setCells b o vs).heap[k]? =w.heap[k]?
 |[],o,cs,w,hb,hl=>⟨cs,hb,rfl,fun q=>by rw[if_neg (by simp)],rfl,rfl,rfl,rfl,fun _ _=>rfl⟩
 |v::vs,o,cs,w,hb,hl=>by
  simp only[b7] at hl;have hb':(w.setCell ⟨b,o,none⟩ v).heap[b]? =some (.cells (cs.setIfInBounds o v) e fr):=by
   simp only[World.setCell,Array.getElem?_modify,hb];simp
  obtain⟨cs',g1,g2,g3,g4,g5,g6,g7,g8⟩:=kO vs (o+1) (cs.setIfInBounds o v) _ hb' (by simpa using(by omega));refine⟨cs',g1,by rw[g2];simp,fun q=> ?_,g4,g5,g6,by rw[World.setCells,g7];simp[World.setCell],fun k hk=> ?_⟩
  ·rw[g3 q,Array.getElem?_setIfInBounds];by_cases r:o+1≤q∧q<o+1+vs.length
   ·rw[if_pos r,if_pos ⟨by omega,by simp only[b7];omega⟩];obtain⟨p,rfl⟩:∃p,q=o+(p+1):=⟨q-o-1,by omega⟩
    rw[show o+(p+1)-o=p+1 from by omega,show o+(p+1)-(o+1)=p from by omega];simp
   ·rw[if_neg r];by_cases e:o=q
    ·subst e;rw[if_pos rfl,if_pos (by omega),if_pos ⟨Nat.le_refl _,by simp⟩];simp
    ·rw[if_neg e,if_neg (by simp only[b7];omega)]
  ·rw[World.setCells,g8 k hk];simp only[World.setCell,Array.getElem?_modify];rw[if_neg (fun e=>hk e.symm)]
structure r9 (w w':World) (b:Option Nat) (b' cap':Nat) (R:List Value):Prop where
 os:w'.os=w.os
 tape:w'.tape=w.tape
 output:w'.output=w.output
 size:w.heap.size≤w'.heap.size
 lt:b'<w'.heap.size
 loc:b=some b'∨w.heap.size≤b'
 frame:∀k,k<w.heap.size→b≠some k→w'.heap[k]? =w.heap[k]?
 mem:∃cs e fr,w'.heap[b']? =some (.cells cs e fr)∧cs.size=cap'*7∧(∀o,o≤cs.size→¬(fr.1≤o∧o<fr.2))∧∀(j:Nat) (v:Value),R[j]? =some v→cs[j]? =some v
theorem BV{X:Cx}{ob:Ob}{b cap:Nat}(h:rI X ob b cap)(hz:ob.sz=7){arr:Array Value}{e:TypeId}{fr:Nat×Nat}(hm:X.w.heap[b]? =some (.cells arr e fr))(n:Nat)(hn:n≤ob.rows.length):
  gJ X (ob.rows.take n).flatten (arr.toList.take (n*7))∧(arr.toList.take (n*7)).length=n*7:=by
 obtain⟨h1,h2,h3,cs,e',fr',m1,m2,m3,m4⟩:=h;rw[m1] at hm;cases hm;rw[hz] at m2 h2 m4;have hw:∀(i:Nat) (r:List T),(ob.rows.take n)[i]? =some r→r.length=7:=pq h2;have hfl:=kD hw;have htl:(ob.rows.take n).length=n:=by simp;omega
 rw[htl] at hfl;have hlen:(arr.toList.take (n*7)).length=n*7:=by
  have:n*7≤cap*7:=cr 7 (by omega);simp;omega
 refine⟨⟨by rw[hfl,hlen],fun q t v ht hv=> ?_⟩,hlen⟩;have hq:q<n*7:=by rw[←hfl];exact(List.getElem?_eq_some_iff.1 ht).1
 obtain⟨i,j,r,t',rfl,k1,k2,k3⟩:=pP hw (by omega) (by rw[htl];exact hq);rw[ht] at k3;cases k3;rw[cg] at k1;split at k1
 ·obtain⟨v',q1,q2⟩:=m4 i j r _ k1 k2;rw[cg,if_pos hq,Array.getElem?_toList,q1] at hv;cases hv;exact q2
 ·cases k1
section
variable {Pr:Nat→Prop} {E0:Nat→Option Loc} {vals:Array Value} {w w':World}
theorem EB{len:Nat}{i:Int}{ob ob2:Ob}(En:Entry F Pr E0 [.c (.row 0 0 0 len),.c (.int .i64 i),.c (.row 2 2 0 1)] [(0,ob),(2,ob2)] vals w)
  (h2x:ob2.bx=false) (hb:Option Nat) (hb0:∀b,hb=some b→∃cap,E0 0=some (.jL b cap 7)) {b' cap':Nat} {R:List Value} (O:r9 w w' hb b' cap' R)
  {rows:List (List T)} (hrl:rows.length≤cap') (hrw:∀(i:Nat) (r:List T),rows[i]? =some r→r.length=7) (hrc:∀(i j:Nat) (r:List T) (t:T),rows[i]? =some r→r[j]? =some t→eV t)
  (hR:gJ (cx F Pr E0 [(0,ob),(2,ob2)] w) rows.flatten R):
  ∃val E' own,Ending.returned (.slice (some (gC b')) rows.length cap')= .returned val∧Bz F Pr E0 [(0,ob),(2,ob2)] w E' own (.c (.sl true 7 rows)) [(2,ob2)] val w':=by
 obtain⟨v1,_,w1,l1,hl1,hr1⟩:=En.mU 0 ob (by simp[get]);obtain⟨v2,_,w2,l2,hl2,hr2⟩:=En.mU 2 ob2 (by simp[get]);have hlb0:∀b,hb=some b→sS [(0,ob),(2,ob2)] E0 b:=fun b h=>by
  obtain⟨cap,h0⟩:=hb0 b h;exact⟨0,ob,cap,7,by simp[get],by rw[v1];exact h0⟩
 have hd:∀b cap sz,l2= .jL b cap sz→hb≠some b:=fun b cap sz h hq=>by
  obtain⟨cap0,h0⟩:=hb0 b hq;rw[h] at hl2;have:=En.oy 0 2 ob ob2 b cap0 7 cap sz (by simp[get]) (by simp[get]) (by rw[v1];exact h0) (by rw[v2];exact hl2);omega
 have K:lJ (cx F Pr E0 [(0,ob),(2,ob2)] w) (rx F Pr E0 [(0,ob),(2,ob2)] E0 (fun q=>if q=0 then some (.jL b' cap' 7) else none) w'):=by
  refine⟨rfl,fun _ _ h=>h,fun ad v hu hcell=> ?_⟩;have hlt:ad.block<w.heap.size:=yT hcell;have hnl:¬sS [(0,ob),(2,ob2)] E0 ad.block:=by
   rintro ⟨p,ob',cap,sz,h1,h2⟩;refine hu (.inl ⟨p,ob',cap,sz,h1, ?_,h2⟩);simp only[get] at h1;split at h1
   ·cases h1;exact w1
   ·split at h1
    ·cases h1;exact w2
    ·cases h1
  refine⟨(nY (O.frame _ hlt fun q=>hnl (hlb0 _ q))).trans hcell, ?_⟩;rintro (h|h|⟨q,cap,sz,h⟩)
  ·exact hnl h
  ·exact hu (.inr h)
  ·simp only at h;split at h
   ·simp only[aG,Loc.jL.injEq] at h;rcases O.loc with z|z
    ·exact hnl (by rw[←h.1];exact hlb0 _ z)
    ·omega
   ·cases h
 obtain⟨cs,e,fr,m1,m2,m3,m4⟩:=O.mem;refine⟨.slice (some (gC b')) rows.length cap',E0,fun q=>if q=0 then some (.jL b' cap' 7) else none,rfl,O.os,O.tape,O.output,O.size, ?_,fun _ _ h=>h, ?_, ?_, ?_, ?_⟩
 ·intro k hk hn;exact O.frame k hk fun q=>hn (hlb0 k q)
 ·intro q b cap sz h;split at h
  ·simp only[aG,Loc.jL.injEq] at h;obtain⟨rfl,rfl,rfl⟩:=h;refine⟨?_,O.lt⟩;rcases O.loc with z|z
   ·obtain⟨cap0,h0⟩:=hb0 _ z;exact .inr ⟨0,ob,cap0,7,by simp[get],by simp[get],by rw[v1];exact h0⟩
   ·exact .inl z
  ·cases h
 ·intro q q' b cap sz cap2 sz2 h h';split at h
  ·split at h'
   ·omega
   ·cases h'
  ·cases h
 ·simp only[xk,uH];refine rZ.own 7 rows (.jL b' cap' 7) (by simp) ⟨rfl, ?_⟩;exact re (ob:={cy:=0,sz:=7,w:=true,bx:=false,rows:=rows}) hrl hrw (hR.mono K) m1 m2 m3 m4 fun _=>hrc
 ·intro p o1 o2 l hg ha hE;simp only[get] at hg ha;split at ha
  ·rename_i hp2;subst hp2;cases ha;have hg':ob2=o1:=by simpa using hg
   subst hg';rw[hE] at hl2;cases hl2;have hclo:∀(i j:Nat) (r:List T) (t:T),ob2.rows[i]? =some r→r[j]? =some t→eV t:=by
    intro i j r t hi hj;cases l2 with
    |nil=>have:=hr2.1;rw[this] at hi;simp at hi
    |jL b cap sz=>exact hr2.2.cl h2x i j r t hi hj
   refine⟨?_,hclo⟩;cases l2 with
   |nil=>exact hr2
   |jL b cap sz=>
    refine⟨hr2.1,hr2.2.mono K ?_⟩;exact O.frame b (En.place 2 ob2 b cap sz (by simp[get]) (by rw[v2];exact hE)) (hd b cap sz rfl)
  ·cases ha
theorem CT{w1:World}{b o cap:Nat}{arr:Array Value}{e:TypeId}{fr:Nat×Nat}{vs R:List Value}(hm:w.heap[b]? =some (.cells arr e fr))(hs:arr.size=cap*7)(hf:∀o,o≤arr.size→¬(fr.1≤o∧o<fr.2))
  (hl:o+vs.length≤arr.size) (hw:w1=w.setCells b o vs) (hR:∀(j:Nat) (v:Value),R[j]? =some v→(if o≤j∧j<o+vs.length then vs[j-o]? else arr[j]?)=some v):r9 w w1 (some b) b cap R:=by
 obtain⟨cs',g1,g2,g3,g4,g5,g6,g7,g8⟩:=kO vs o arr w hm hl;subst hw;have hb:b<w.heap.size:=by
  rcases Nat.lt_or_ge b w.heap.size with q|q
  ·exact q
  ·rw[Array.getElem?_eq_none q] at hm;cases hm
 exact⟨g4,g5,g6,by rw[g7];exact Nat.le_refl _,by rw[g7];exact hb,.inl rfl,fun k _ hn=>g8 k fun q=>hn (by rw[q]),cs',e,fr,g1,by rw[g2];exact hs,fun o ho=>hf o (by omega),fun j v hj=>by rw[g3];exact hR j v hj⟩
theorem vr{cs vs:List Value}{k:Nat}(hk:k≤cs.length)(hv:vs.length=7){j:Nat}{v:Value}(h:(cs.take k++vs++cs.drop k)[j]? =some v):
  (j<k∧cs[j]? =some v)∨(k≤j∧j<k+7∧vs[j-k]? =some v)∨(k+7≤j∧j<cs.length+7∧(cs.drop k)[j-(k+7)]? =some v):=by
 have h1:(cs.take k).length=k:=by simp;omega
 have hj:j<(cs.take k++vs++cs.drop k).length:=(List.getElem?_eq_some_iff.1 h).1;simp only[aF,h1,hv,List.length_drop] at hj;rw[cP,dz] at h;split at h
 ·rename_i c;rw[h1] at c;rw[cg,if_pos c] at h;exact .inl ⟨c,h⟩
 ·rename_i c;rw[h1] at c h;rw[dz] at h;split at h
  ·rename_i c2;exact .inr (.inl ⟨by omega,by omega,h⟩)
  ·rename_i c2;refine .inr (.inr ⟨by omega,by omega, ?_⟩);rw[hv] at h;rw[show j-(k+7)=j-k-7 by omega];exact h
theorem Hj{f:Nat}{tS tE:TypeId}{bytes:Nat}{zero:List T}(hf:w7 P F f=true)(he:hQ P tS=some tE)(hsz:jV P tE=some 7)(hby:oM P tE=some bytes)(hbytes:bytes≤4096)(hz:uV P zero tE=true)
  (hEnd:∀(base:Option Addr) (n c vb vc:Nat) (w w1:World) (val:Value),(base=none→n=0)→(∀a,base=some a→∃b,a=⟨b,0,none⟩)→n≤c→
   (∀ty,(Builtin.append_ #[tS,tS] ty #[.slice base n c,.slice (some ⟨vb,0,none⟩) 1 vc]).run P w= .ok val w1)→Calls P (F f) #[.slice base n c,.int .i64 n,.slice (some ⟨vb,0,none⟩) 1 vc] w fun e w'=>e= .returned val∧w'=w1)
  (hShift:∀(b n c i vb vc:Nat) (cs vs:List Value) (w:World),i<n→n+1≤c→n≤1048576→vb≠b→cs.length=n*7→vs.length=7→(∀j v,cs[j]? =some v→w.cell? ⟨b,j,none⟩=some v)→
   (∀j,j<(n+1)*7→(w.cell? ⟨b,j,none⟩).isSome=true)→(∀j,j<(n+1)*7→w.frozen? ⟨b,j,none⟩=false)→(∀j v,vs[j]? =some v→w.cell? ⟨vb,j,none⟩=some v)→(∀v∈cs,v.oneCell'=true)→(∀v∈vs,v.oneCell'=true)→
   ∀(tA tB:TypeId) (kA kB:Nat),w.shape? vb=some (tA,kA)→w.shape? b=some (tB,kB)→kB≠0→w.frozen? ⟨vb,0,none⟩=false→w.frozen? ⟨vb,kA,none⟩=false→
   Calls P (F f) #[.slice (some ⟨b,0,none⟩) n c,.int .i64 i,.slice (some ⟨vb,0,none⟩) 1 vc] w fun e w'=>
    e= .returned (.slice (some ⟨b,0,none⟩) (n+1) c)∧w'=(w.drew.setCells b ((i+1)*7) (cs.drop (i*7))).setCells b (i*7) vs)
  (hGrow:∀(b n c i vb vc:Nat) (cs vs:List Value) (w:World),i<n→n≤c→c<n+1→n≤1048576→cs.length=n*7→vs.length=7→(∀j v,cs[j]? =some v→w.cell? ⟨b,j,none⟩=some v)→(∀j v,vs[j]? =some v→w.cell? ⟨vb,j,none⟩=some v)→
   (∀v∈cs,v.oneCell'=true)→(∀v∈vs,v.oneCell'=true)→
   Calls P (F f) #[.slice (some ⟨b,0,none⟩) n c,.int .i64 i,.slice (some ⟨vb,0,none⟩) 1 vc] w fun e w'=>
    ∃(G:Nat) (row:Array Value),n+1≤G∧row.size=G*7∧e= .returned (.slice (some ⟨w.heap.size,0,none⟩) (n+1) G)∧(∀j,j<i*7→row[j]? =cs[j]?)∧
    w'=(((w.alloc (.cells row tE)).drew.setCells w.heap.size (i*7) vs).drew).setCells w.heap.size ((i+1)*7) (cs.drop (i*7))):uB P F f A2:=by
 intro as lent res after hg;refine⟨hf,fun Pr E0 vals w En=> ?_⟩;unfold A2 at hg;split at hg;rotate_left
 ·cases hg
 rename_i len i ob ob2;split at hg;rotate_left
 ·cases hg
 rename_i hc;cases hg;obtain⟨⟨c1,c2,c3,c4,c5,c6⟩,c7,c8,c9⟩:=hc;obtain⟨m,rfl⟩:∃m:Nat,i=(m:Int):=⟨i.toNat,by omega⟩
 have hm:m≤len:=by omega
 simp only[fp];have hn:vals.size=3:=En.n.symm;obtain⟨x0,x1,x2,rfl⟩:∃x0 x1 x2,vals= #[x0,x1,x2]:=by
  obtain⟨l⟩:=vals
  match l,hn with
  |[a,b,c],_=>exact⟨a,b,c,rfl⟩
 have a0:=En.args 0 _ x0 rfl rfl;have a1:=En.args 1 _ x1 rfl rfl;have a2:=En.args 2 _ x2 rfl rfl;obtain⟨v1,_,w1,l1,hl1,hr1⟩:=En.mU 0 ob (by simp[get]);obtain⟨v2,_,w2,l2,hl2,hr2⟩:=En.mU 2 ob2 (by simp[get]);have hx1:x1= .int .i64 m:=by cases a1 with|c _ _ h=>cases h;rfl
 subst hx1;cases a2 with
 |c _ _ a2=>
 cases a2 with
 |row _ _ _ _ vcap vsz vb hvE _ _=>
 have hvE':E0 2=some (.jL vb vcap vsz):=hvE;rw[hvE'] at hl2;cases hl2;obtain⟨e2,hob2⟩:=hr2;rw[c7] at e2;subst e2;obtain⟨wI,et2,fr2,n1,n2,n3,n4⟩:=hob2.mem;rw[c7] at n2 n4;have hvl1:1≤vcap:=by have:=hob2.len;omega
 obtain⟨hV,hVl⟩:=BV hob2 c7 n1 1 (by omega);rw[ab (by omega:ob2.rows.length≤1)] at hV;simp only[Nat.one_mul] at hV hVl;obtain⟨vs,hvs⟩:∃vs,vs=wI.toList.take 7:=⟨_,rfl⟩
 rw[←hvs] at hV hVl;have n1':w.heap[vb]? =some (.cells wI et2 fr2):=n1;have hvcell:∀(j:Nat) (v:Value),vs[j]? =some v→w.cell? ⟨vb,j,none⟩=some v:=by
  intro j v hj;rw[hvs,cg] at hj;split at hj
  ·rw[Array.getElem?_toList] at hj;simp only[World.cell?,n1',Option.isSome_none,au,if_false];exact hj
  ·cases hj
 have hfzv:∀o,o≤wI.size→w.frozen? ⟨vb,o,none⟩=false:=by
  intro o ho;have:=n3 o ho;simp only[World.frozen?,n1',Bool.and_eq_false_iff,decide_eq_false_iff_not];omega
 have hx2:(Value.slice (some ((gC vb).add (0*7))) 1 (vcap-0))= .slice (some ⟨vb,0,none⟩) 1 vcap:=by
  rw[j9];simp
 rw[hx2] at En ⊢;have hrows:∀(k:Nat) (r:List T),(ob.rows.take m++ob2.rows++(ob.rows.take len).drop m)[k]? =some r→(∃k':Nat,ob.rows[k']? =some r)∨∃k':Nat,ob2.rows[k']? =some r:=by
  intro k r h;rcases List.mem_append.1 (iA h) with q|q
  ·rcases List.mem_append.1 q with q|q
   ·exact .inl (List.getElem?_of_mem (List.mem_of_mem_take q))
   ·exact .inr (List.getElem?_of_mem q)
  ·exact .inl (List.getElem?_of_mem (List.mem_of_mem_take (List.mem_of_mem_drop q)))
 have hlenR:(ob.rows.take m++ob2.rows++(ob.rows.take len).drop m).length=len+1:=by simp[c9];omega
 have hw2:∀(k:Nat) (r:List T),ob2.rows[k]? =some r→r.length=7:=by have:=hob2.width;rwa [c7] at this
 have fin:∀(hb:Option Nat) (hb0:∀b,hb=some b→∃cap,E0 0=some (.jL b cap 7)) (b' cap':Nat) (R:List Value) (w':World),r9 w w' hb b' cap' R→len+1≤cap'→
   (∀(k j:Nat) (r:List T) (t:T),ob.rows[k]? =some r→r[j]? =some t→eV t)→(∀(k:Nat) (r:List T),ob.rows[k]? =some r→r.length=7)→
   gJ (cx F Pr E0 [(0,ob),(2,ob2)] w) (ob.rows.take m++ob2.rows++(ob.rows.take len).drop m).flatten R→
   ∃val E' own,Ending.returned (.slice (some (gC b')) (len+1) cap')= .returned val∧Bz F Pr E0 [(0,ob),(2,ob2)] w E' own (.c (.sl true 7 (ob.rows.take m++ob2.rows++(ob.rows.take len).drop m))) [(2,ob2)] val w':=by
  intro hb hb0 b' cap' R w' O hcap hcl hwd hR;have:=EB En c8 hb hb0 O (rows:=ob.rows.take m++ob2.rows++(ob.rows.take len).drop m) (by rw[hlenR];exact hcap) (fun k r h=>by
   rcases hrows k r h with⟨k',q⟩|⟨k',q⟩
   ·exact hwd k' r q
   ·exact hw2 k' r q) (fun k j r t h hj=>by
   rcases hrows k r h with⟨k',q⟩|⟨k',q⟩
   ·exact hcl k' j r t q hj
   ·exact hob2.cl c8 k' j r t q hj) hR
  rw[hlenR] at this;exact this
 obtain⟨zv,hzv,hzr,hzs,_⟩:=nw (P:=P) (X:=cx F Pr E0 [(0,ob),(2,ob2)] w) hz;have hzc:zv.cells.size=7:=by
  rw[hsz] at hzs;have h1:=hzr.1;simp at h1;have:=Option.some.inj hzs;omega
 have hlv:(Builtin.lenOf (.slice (some ⟨vb,0,none⟩) 1 vcap)).run P w= .ok 1 w:=by simp[Builtin.lenOf]
 have hnew:∀q,(Builtin.firstCells 7 1 (.slice (some ⟨vb,0,none⟩) 1 vcap)).run P {w with drawn:=q}= .ok vs.toArray {w with drawn:=q}:=fun q=>
  run_firstCells_some (P:=P) (w:={w with drawn:=q}) 7 1 ⟨vb,0,none⟩ 1 vcap vs (by omega) (fun j v hj=>by rw[show (⟨vb,0,none⟩:Addr)=gC vb from rfl,j9];exact hvcell j v hj)
 cases a0 with
 |c _ _ a0=>
 cases a0 with
 |mY _ _ hE=>
  have hE':E0 0=some .nil:=hE;rw[hE'] at hl1;cases hl1;have hrn:ob.rows=[]:=hr1.1;have hm0:m=0:=by omega
  subst hm0;have hgo:=(tJ (P:=P) (w:=w) (tyr:=tS) (base:=none) (sLen:=0) (sCap:=0) he hsz (jg he) (fun k=>by simp) hby hzv hzc hbytes (k:=1) (by omega) hlv hnew (lX:= #[]) (by intro q;simp[Builtin.firstCells]) (by simp) (by simp[hVl])).2 (by omega);obtain⟨cap,rest,w1,hcap,hrest,f1,f2,f3,f4,hr⟩:=hgo;refine(hEnd none 0 0 vb vcap w w1 _ (fun _=>rfl) (fun a h=>by cases h) (Nat.le_refl _) (fun ty=>hr)).mono ?_;rintro e w' ⟨rfl,rfl⟩;have O:r9 w w' none w.heap.size cap vs:=by
   refine⟨f1,f2,f3,by rw[f4];simp,by rw[f4];simp,.inr (Nat.le_refl _),fun k hk _=>by rw[f4,Array.getElem?_push,if_neg (by omega)],#[]++vs.toArray++rest,tE,(0,0),by rw[f4];exact Array.getElem?_push_size, ?_,by simp,fun j v hj=> ?_⟩
   ·simp only[Array.empty_append,Array.size_append,List.size_toArray,hVl,hrest];omega
   ·rw[Array.empty_append,Array.getElem?_append_left (by simpa using(List.getElem?_eq_some_iff.1 hj).1)];simpa using hj
  refine fin none (fun b h=>by cases h) w.heap.size cap vs w' O (by omega) (fun k j r t h=>by rw[hrn] at h;simp at h) (fun k r h=>by rw[hrn] at h;simp at h) ?_;simpa [hrn] using hV
 |row _ _ _ _ cap sz b hE hfit _=>
  have hE':E0 0=some (.jL b cap sz):=hE;rw[hE'] at hl1;cases hl1;obtain⟨e1,hob⟩:=hr1;rw[c1] at e1;subst e1;obtain⟨arr,et,fr,m1,m2,m3,m4⟩:=hob.mem;rw[c1] at m2 m4;have m1':w.heap[b]? =some (.cells arr et fr):=m1;have hcl:∀(k j:Nat) (r:List T) (t:T),ob.rows[k]? =some r→r[j]? =some t→eV t:=hob.cl c2;have hwd:∀(k:Nat) (r:List T),ob.rows[k]? =some r→r.length=7:=by have:=hob.width;rwa [c1] at this
  have hlc:len≤cap:=by have:=hob.len;omega
  obtain⟨hC,hCl⟩:=BV hob c1 m1 len c3;obtain⟨cs,hcs⟩:∃cs,cs=arr.toList.take (len*7):=⟨_,rfl⟩
  rw[←hcs] at hC hCl;have hccell:∀(j:Nat) (v:Value),cs[j]? =some v→arr[j]? =some v:=by
   intro j v hj;rw[hcs,cg] at hj;split at hj
   ·rwa [Array.getElem?_toList] at hj
   ·cases hj
  have hbcell:∀(j:Nat) (v:Value),cs[j]? =some v→w.cell? ⟨b,j,none⟩=some v:=by
   intro j v hj;simp only[World.cell?,m1',Option.isSome_none,au,if_false];exact hccell j v hj
  have hfz:∀o,o≤arr.size→w.frozen? ⟨b,o,none⟩=false:=by
   intro o ho;have:=m3 o ho;simp only[World.frozen?,m1',Bool.and_eq_false_iff,decide_eq_false_iff_not];omega
  have h7:m*7≤cs.length:=by rw[hCl];omega
  have hx0:(Value.slice (some ((gC b).add (0*7))) len (cap-0))= .slice (some ⟨b,0,none⟩) len cap:=by
   rw[j9];simp
  rw[hx0];have hR:gJ (cx F Pr E0 [(0,ob),(2,ob2)] w) (ob.rows.take m++ob2.rows++(ob.rows.take len).drop m).flatten (cs.take (m*7)++vs++cs.drop (m*7)):=by
   have hsp:(ob.rows.take len).flatten=(ob.rows.take m).flatten++((ob.rows.take len).drop m).flatten:=by
    rw[←List.flatten_append];congr 1;have:=(cX m (ob.rows.take len)).symm
    rwa [List.take_take,Nat.min_eq_left hm] at this
   have hfl:(ob.rows.take m).flatten.length=m*7:=by
    have:=kD (sz:=7) (rows:=ob.rows.take m) (pq hwd);rw[this];simp;omega
   have hA:=hC.take (m*7);have hD:=hC.drop (m*7);rw[hsp,List.take_left' hfl] at hA;rw[hsp,List.drop_left' hfl] at hD;rw[List.flatten_append,List.flatten_append];exact(hA.append hV).append hD
  have hbs:b<w.heap.size:=by
   rcases Nat.lt_or_ge b w.heap.size with q|q
   ·exact q
   ·rw[Array.getElem?_eq_none q] at m1';cases m1'
  have hb0:∀b_1,some b=some b_1→∃cap,E0 0=some (.jL b_1 cap 7):=fun b1 h=>by cases h;exact⟨cap,hE'⟩
  have hbA:(⟨b,0,none⟩:Addr)=gC b:=rfl;by_cases hme:m=len
  ·subst hme;have hold:∀q,(Builtin.firstCells 7 m (.slice (some (gC b)) m cap)).run P {w with drawn:=q}= .ok cs.toArray {w with drawn:=q}:=fun q=>
    run_firstCells_some (P:=P) (w:={w with drawn:=q}) 7 m (gC b) m cap cs hCl (fun j v hj=>by rw[j9];exact hbcell j v hj)
   have hgo:=tJ (P:=P) (w:=w) (tyr:=tS) (base:=some (gC b)) (sLen:=m) (sCap:=cap) he hsz (jg he) (fun k=>by simp) hby hzv hzc hbytes (k:=1) (by omega) hlv hnew (lX:=cs.toArray) hold (by simp[hCl]) (by simp[hVl]);have hcsd:cs.drop (m*7)=[]:=dY (by omega);have hcst:cs.take (m*7)=cs:=ab (by omega);by_cases hroom:m+1≤cap
   ·have hst:=run_storeCells_cells (P:=P) b (m*7) vs 0 w (fun j hj=>by
      rw[World.cell?,m1'];simp only[Option.isSome_none,au,if_false];rw[Array.getElem?_eq_getElem (by rw[m2];omega)];rfl) (fun j hj=>hfz _ (by rw[m2];omega)) hV.one
    have hrun:=hgo.1 hroom (w.setCells b (m*7+0) vs) (by simp only;rw[j9];exact hst);refine(hEnd (some ⟨b,0,none⟩) m cap vb vcap w _ _ (fun h=>by cases h) (fun a h=>⟨b,(Option.some.inj h).symm⟩) hlc (fun ty=>hrun)).mono ?_;rintro e w' ⟨rfl,rfl⟩;refine fin (some b) hb0 b cap _ _ (CT (o:=m*7) (vs:=vs) m1' m2 m3 (by rw[m2,hVl];omega) rfl fun j v hj=> ?_) hroom hcl hwd hR;rcases vr h7 hVl hj with⟨q1,q2⟩|⟨q1,q2,q3⟩|⟨q1,q2,q3⟩
    ·rw[if_neg (by omega)];exact hccell j v q2
    ·rw[if_pos ⟨by omega,by omega⟩];simpa using q3
    ·rw[hcsd] at q3;simp at q3
   ·obtain⟨cap2,rest,w1,hcap,hrest,f1,f2,f3,f4,hr⟩:=hgo.2 (by omega);refine(hEnd (some ⟨b,0,none⟩) m cap vb vcap w w1 _ (fun h=>by cases h) (fun a h=>⟨b,(Option.some.inj h).symm⟩) hlc (fun ty=>hr)).mono ?_;rintro e w' ⟨rfl,rfl⟩;have O:r9 w w' none w.heap.size cap2 (cs.take (m*7)++vs++cs.drop (m*7)):=by
     refine⟨f1,f2,f3,by rw[f4];simp,by rw[f4];simp,.inr (Nat.le_refl _),fun k hk _=>by rw[f4,Array.getElem?_push,if_neg (by omega)],cs.toArray++vs.toArray++rest,tE,(0,0),by rw[f4];exact Array.getElem?_push_size, ?_,by simp,fun j v hj=> ?_⟩
     ·simp only[Array.size_append,List.size_toArray,hVl,hCl,hrest];omega
     ·rw[hcsd,hcst,dZ] at hj;have hjl:j<(cs++vs).length:=(List.getElem?_eq_some_iff.1 hj).1;have e3:cs.toArray++vs.toArray=(cs++vs).toArray:=by simp
      rw[e3,Array.getElem?_append_left (by simpa using hjl)];simpa using hj
    exact fin none (fun b h=>by cases h) w.heap.size cap2 _ w' O hcap hcl hwd hR
  ·have hml:m<len:=by omega
   by_cases hroom:len+1≤cap
   ·refine(hShift b len cap m vb vcap cs vs w hml hroom c6 ?_ hCl hVl hbcell ?_ ?_ hvcell hC.one hV.one et2 et wI.size arr.size ?_ ?_ ?_ (hfzv 0 (Nat.zero_le _)) (hfzv _ (Nat.le_refl _))).mono ?_
    ·intro q;have:=En.oy 0 2 ob ob2 b cap 7 vcap 7 (by simp[get]) (by simp[get]) (by rw[v1];exact hE') (by rw[v2,hvE',q]);omega
    ·intro j hj;rw[World.cell?,m1'];simp only[Option.isSome_none,au,if_false];have:(len+1)*7≤cap*7:=cr 7 hroom;rw[Array.getElem?_eq_getElem (by rw[m2];omega)];rfl
    ·intro j hj;have:(len+1)*7≤cap*7:=cr 7 hroom;exact hfz _ (by rw[m2];omega)
    ·simp[World.shape?,n1']
    ·simp[World.shape?,m1']
    ·rw[m2];omega
    ·rintro e w' ⟨rfl,rfl⟩;have hdl:(cs.drop (m*7)).length=len*7-m*7:=by rw[List.length_drop,hCl]
     have h8:(len+1)*7≤cap*7:=cr 7 hroom;obtain⟨arr3,g1,g2,g3,g4,g5,g6,g7,g8⟩:=kO (cs.drop (m*7)) ((m+1)*7) arr w.drew m1' (by rw[hdl,m2];omega);obtain⟨arr4,k1,k2,k3,k4,k5,k6,k7,k8⟩:=kO vs (m*7) arr3 _ g1 (by rw[hVl,g2,m2];omega);have O:r9 w ((w.drew.setCells b ((m+1)*7) (cs.drop (m*7))).setCells b (m*7) vs) (some b) b cap (cs.take (m*7)++vs++cs.drop (m*7)):=by
      refine⟨k4.trans g4,k5.trans g5,k6.trans g6,by rw[k7,g7];exact Nat.le_refl _,by rw[k7,g7];exact hbs,.inl rfl,fun q _ hq=>(k8 q fun z=>hq (by rw[z])).trans (g8 q fun z=>hq (by rw[z])),arr4,et,fr,k1,by rw[k2,g2,m2],fun o ho=>m3 o (by omega),fun j v hj=> ?_⟩;rw[k3,g3];rcases vr h7 hVl hj with⟨q1,q2⟩|⟨q1,q2,q3⟩|⟨q1,q2,q3⟩
      ·rw[if_neg (by omega),if_neg (by omega)];exact hccell j v q2
      ·rw[if_pos ⟨by omega,by omega⟩];exact q3
      ·rw[if_neg (by omega),if_pos ⟨by omega,by omega⟩,show j-(m+1)*7=j-(m*7+7) by omega];exact q3
     exact fin (some b) hb0 b cap _ _ O hroom hcl hwd hR
   ·refine(hGrow b len cap m vb vcap cs vs w hml hlc (by omega) c6 hCl hVl hbcell hvcell hC.one hV.one).mono ?_;rintro e w' ⟨G,row,hG,hrs,rfl,hrt,rfl⟩;have hdl:(cs.drop (m*7)).length=len*7-m*7:=by rw[List.length_drop,hCl]
    have h8:(len+1)*7≤G*7:=cr 7 hG;have hm0:((w.alloc (.cells row tE)).drew).heap[w.heap.size]? =some (.cells row tE (0,0)):=Array.getElem?_push_size;obtain⟨arr3,g1,g2,g3,g4,g5,g6,g7,g8⟩:=kO vs (m*7) row _ hm0 (by rw[hVl,hrs];omega);obtain⟨arr4,k1,k2,k3,k4,k5,k6,k7,k8⟩:=kO (cs.drop (m*7)) ((m+1)*7) arr3 (((w.alloc (.cells row tE)).drew.setCells w.heap.size (m*7) vs).drew) g1 (by rw[hdl,g2,hrs];omega);have hsz2:((w.alloc (.cells row tE)).drew).heap.size=w.heap.size+1:=Array.size_push ..;have O:r9 w ((((w.alloc (.cells row tE)).drew.setCells w.heap.size (m*7) vs).drew).setCells w.heap.size ((m+1)*7) (cs.drop (m*7))) none w.heap.size G (cs.take (m*7)++vs++cs.drop (m*7)):=by
     refine⟨k4.trans g4,k5.trans g5,k6.trans g6, ?_, ?_,.inr (Nat.le_refl _),fun q hq _=> ?_,arr4,tE,(0,0),k1,by rw[k2,g2,hrs],by simp,fun j v hj=> ?_⟩
     ·rw[k7];show w.heap.size≤(((w.alloc (.cells row tE)).drew.setCells w.heap.size (m*7) vs)).heap.size;rw[g7,hsz2];omega
     ·rw[k7];show w.heap.size<(((w.alloc (.cells row tE)).drew.setCells w.heap.size (m*7) vs)).heap.size;rw[g7,hsz2];omega
     ·refine(k8 q (by omega)).trans ((g8 q (by omega)).trans ?_);show (w.heap.push _)[q]? =_;rw[Array.getElem?_push,if_neg (by omega)]
     ·rw[k3,g3];rcases vr h7 hVl hj with⟨q1,q2⟩|⟨q1,q2,q3⟩|⟨q1,q2,q3⟩
      ·rw[if_neg (by omega),if_neg (by omega),hrt j q1];exact q2
      ·rw[if_neg (by omega),if_pos ⟨by omega,by omega⟩];exact q3
      ·rw[if_pos ⟨by omega,by omega⟩,show j-(m+1)*7=j-(m*7+7) by omega];exact q3
    exact fin none (fun b h=>by cases h) w.heap.size G _ _ O hG hcl hwd hR
end
end Mx
namespace Mx
open Go
def ev.l0:C:= .seq (.ak [Q 10 (.bin .lss (.t 9) (.t 8))] [3,7,8,9,10] [6,17])
 (.seq (.cond (.t 10) (.skip) (.exit 0))
 (.seq (.block 1 (.seq (.ak [Qa 11 7 7 9,QL 12 7 11,Q 5 (.alloc [.int .i64 0,.str ⟨#[]⟩,.int .i64 0,.int .i64 0,.int .i64 0,.aN 4,.aN 1]),Qs 7 5 12] [3,5,7,8,9] [5,6,17])
 (.ak [Qm 13 3,QL 14 7 5,Q 15 (.call 155 [.t 14] [] []),Q 16 (.bZ 7 1 [.int .i64 0,.str ⟨#[]⟩,.int .i64 0,.int .i64 0,.int .i64 0,.aN 4,.aN 1] [(0,.t 15)]),
   Q 17 (.app 7 96 (.t 13) (.t 16)),Qm 3 17] [3,7,8,9] [6,17])))
 (.ak [Q 18 (.bin .add (.t 9) (kI 1)),Qm 9 18] [3,7,8,9] [6,17])))
def ev.b:C:= .seq (.ak [Q 2 (.nil 7)] [0] [])
 (.seq (.ak [Q 6 (.bZ 7 0 [.int .i64 0,.str ⟨#[]⟩,.int .i64 0,.int .i64 0,.int .i64 0,.aN 4,.aN 1] []),Qm 3 6] [0,3] [6,17])
 (.seq (.seq (.ak [Qm 7 0,Q 8 (.len (.t 7)),Qi 9 0] [3,7,8,9] [6,17])
 (.block 0 (.loop ev.l0)))
 (.seq (.ak [Qm 19 3,Qm 2 19] [2] [2,6,17])
 (.ret))))
def ev.m:Fn:={np:=1,body:=ev.b,res:=[.tmp 2]}
def ev.k(M:Nat→Option Body):Prop:=M 270=some (.code ev.m)∧cq.k M
def b4.b:C:= .seq (.ak [Qv 1 0,Q 2 (.alloc [.int .i64 0,.int .i64 0,.aN 7,.aN 1])] [1,2] [1,2,10900,11200])
 (.seq (.gm [Qf 3 0 1,Ql 4 3,Qf 5 1 1,Ql 6 5,Qf 7 2 1,Ql 8 7,Q 9 (.call 270 [.t 8] [] [(0,10900)]),Qf 10 3 1,Ql 11 10,Q 12 (.call 134 [.t 11] [] [(0,11200)]),
   Q 13 (.build [.int .i64 0,.int .i64 0,.aN 7,.aN 1] [(0,1,.t 4),(1,1,.t 6),(2,1,.t 9),(3,1,.t 12)]),Qs 4 2 13] [[],[0],[],[2],[],[4],[4,5],[],[7],[4,5,6,7,8],lr 10,lr 11] [2] [2,10900,11200])
 (.ret))
def b4.m:Fn:={np:=1,body:=b4.b,res:=[.cell 2 true 4]}
def b4.k(M:Nat→Option Body):Prop:=M 220=some (.code b4.m)∧eJ.k M∧ev.k M
def fm.l0:C:= .seq (.ak [Q 11 (.bin .lss (.t 10) (.t 9))] [1,2,8,9,10,11] [2])
 (.seq (.cond (.t 11) (.skip) (.exit 0))
 (.seq (.block 1 (.seq (.ak [Qa 12 7 8 10,QL 13 7 12,Q 6 (.alloc [.int .i64 0,.str ⟨#[]⟩,.int .i64 0,.int .i64 0,.int .i64 0,.aN 4,.aN 1]),Qs 7 6 13] [1,2,6,8,9,10] [2,6])
 (.seq (.ak [Qf 14 0 6,Ql 15 14,Qm 16 1,Q 17 (.bin .eql (.t 15) (.t 16)),Qm 18 17,Qg 19 (.load true 7 (.t 6)) 18 false,Qg 20 (.mv (.t 1)) 18 false,
   Qg 21 (.call 72 [.t 19,.t 20] [] []) 18 false,Qg 22 (.bin .geq (.t 21) (kI 0)) 18 false,Q 23 (.pick (.t 18) (kB true) (.t 22)),Qm 24 23,Qg 25 (.bH 6 (.t 6)) 24 false,
   Qg 26 (.load false 1 (.t 25)) 24 false,Qg 27 (.mv (.t 1)) 24 false,Qg 28 (.call 156 [.t 26,.t 27] [] []) 24 false,Q 29 (.pick (.t 24) (kB true) (.t 28))] [1,2,8,9,10,29] [2])
 (.cond (.t 29) (.seq (.ak [Qb 4 true] [4] [])
 (.ret)) (.skip)))))
 (.ak [Q 30 (.bin .add (.t 10) (kI 1)),Qm 10 30] [1,2,8,9,10] [2])))
def fm.b:C:= .seq (.ak [Qv 2 0,Qb 4 false] [1,2] [2])
 (.seq (.seq (.ak [Qf 7 2 2,Ql 8 7,Q 9 (.len (.t 8)),Qi 10 0] [1,2,8,9,10] [2])
 (.block 0 (.loop fm.l0)))
 (.seq (.ak [Qf 31 3 2,Ql 32 31,Qm 33 1,Q 34 (.call 156 [.t 32,.t 33] [] []),Qm 4 34] [4] [])
 (.ret)))
def fm.m:Fn:={np:=2,body:=fm.b,res:=[.tmp 4]}
def fm.k(M:Nat→Option Body):Prop:=M 413=some (.code fm.m)∧cE.k M∧aH.k M
def dO.b:C:= .seq (.ak [Qv 1 0,Q 2 (.alloc [.int .i64 0,.int .i64 0])] [1,2] [1,2])
 (.seq (.ak [Qf 3 1 1,Ql 4 3,Q 5 (.bin .add (.t 4) (kI 1)),Qf 6 0 1,Ql 7 6,Q 8 (.build [.int .i64 0,.int .i64 0] [(0,1,.t 5),(1,1,.t 7)]),Qs 2 2 8] [2] [2])
 (.ret))
def dO.m:Fn:={np:=1,body:=dO.b,res:=[.cell 2 true 2]}
def dO.k(M:Nat→Option Body):Prop:=M 431=some (.code dO.m)
def fM.b:C:= .seq (.ak [Qv 2 0,Qv 3 1,Q 4 (.alloc [.int .i64 0,.int .i64 0,.aN 7,.aN 1]),Qb 5 false] [2,3,4] [2,3,4])
 (.seq (.seq (.ak [QL 6 4 2,Q 7 (.call 150 [.t 6] [] []),Q 8 (.not (.t 7))] [2,3,4,8] [2,3,4])
 (.cond (.t 8) (.seq (.ak [QL 9 4 3,Q 10 (.call 220 [.t 9] [] []),Qs 4 4 10,Qb 5 false] [4,5] [4])
 (.ret)) (.skip)))
 (.seq (.ak [QL 11 4 2,Qs 4 4 11,Qb 5 true] [4,5] [4])
 (.ret)))
def fM.m:Fn:={np:=2,body:=fM.b,res:=[.cell 4 true 4,.tmp 5]}
def fM.k(M:Nat→Option Body):Prop:=M 441=some (.code fM.m)∧aJ.k M∧b4.k M
def cV.l0:C:= .seq (.seq (.ak [Qm 27 9,Qf 28 2 8,Ql 29 28,Q 30 (.len (.t 29)),Q 31 (.bin .lss (.t 27) (.t 30)),Qm 32 31,Qg 33 (.bH 2 (.t 8)) 32 true,Qg 34 (.load false 1 (.t 33)) 32 true,
    Qg 35 (.mv (.t 9)) 32 true,Qg 36 (.kL 7 (.t 34) (.t 35)) 32 true,Qg 37 (.bH 0 (.t 36)) 32 true,Qg 38 (.load false 1 (.t 37)) 32 true,Qg 39 (.mv (.t 1)) 32 true,
    Qg 40 (.bin .lss (.t 38) (.t 39)) 32 true,Q 41 (.pick (.t 32) (.t 40) (kB false))] [1,2,3,6,8,9,41] [3,6,8,11102,11103,15700,16102,16103])
 (.cond (.t 41) (.skip) (.exit 0)))
 (.block 1 (.ak [Qm 42 9,Q 43 (.bin .add (.t 42) (kI 1)),Qm 9 43] [1,2,3,6,8,9] [3,6,8,11102,11103,15700,16102,16103]))
def cV.b:C:= .seq (.ak [Qv 3 0,Q 6 (.alloc [.int .i64 0,.int .i64 0,.aN 7,.aN 1]),Qb 7 false] [1,2,3,6] [3,6,11102,11103,15700])
 (.seq (.ak [QL 10 4 3,Q 11 (.call 220 [.t 10] [] [(2,11102),(3,11103)]),Q 8 (.alloc [.int .i64 0,.int .i64 0,.aN 7,.aN 1]),Qs 4 8 11] [1,2,3,6,8] [3,6,8,11102,11103,15700])
 (.seq (.seq (.ak [QL 12 4 3,Q 13 (.call 150 [.t 12] [] []),Q 14 (.not (.t 13)),Qm 15 14,Qg 16 (.load true 4 (.t 3)) 15 false,Qg 17 (.mv (.t 1)) 15 false,
   Qg 18 (.call 413 [.t 16,.t 17] [] []) 15 false,Q 19 (.pick (.t 15) (kB true) (.t 18)),Qm 20 19,Qg 21 (.load true 4 (.t 3)) 20 false,Qg 22 (.mv (.t 2)) 20 false,
   Qg 23 (.call 228 [.t 21,.t 22] [] []) 20 false,Qg 24 (.bin .geq (.t 23) (kI 0)) 20 false,Q 25 (.pick (.t 20) (kB true) (.t 24))] [1,2,3,6,8,25] [3,6,8,11102,11103,15700])
 (.cond (.t 25) (.seq (.shut [11102,11103,15700] (.ak [QL 26 4 8,Qs 4 6 26,Qb 7 false] [6,7] [6,11102,11103,15700]))
 (.ret)) (.skip)))
 (.seq (.ak [Qi 9 0] [1,2,3,6,8,9] [3,6,8,11102,11103,15700])
 (.seq (.block 0 (.loop cV.l0))
 (.seq (.ak [Qf 44 1 8,Ql 45 44,Q 46 (.bin .add (.t 45) (kI 1)),Qf 47 1 8,Qs 1 47 46] [1,2,3,6,8,9] [3,6,8,11102,11103,15700])
 (.seq (.gm [Qf 48 2 8,Ql 49 48,Qm 50 9,Qm 51 1,Qm 52 2,QL 53 4 3,Q 54 (.call 431 [.t 53] [] []),
   Q 55 (.build [.int .i64 0,.str ⟨#[]⟩,.int .i64 0,.int .i64 0,.int .i64 0,.aN 4,.aN 1] [(0,1,.t 51),(1,1,.t 52),(2,2,.t 54),(4,1,kI 1)]),
   Q 56 (.bZ 7 1 [.int .i64 0,.str ⟨#[]⟩,.int .i64 0,.int .i64 0,.int .i64 0,.aN 4,.aN 1] [(0,.t 55)]),Q 57 (.call 440 [.t 49,.t 50,.t 56] [0,2] [(0,15700)]),
   Qf 58 2 8,Qs 1 58 57] [[],[0],[],[],[],[],[5],[3,4,5,6],[3,4,5,6,7],lr 9,lr 10,lr 11] [3,6,8] [3,6,8,11102,11103,15700])
 (.seq (.shut [11102,11103,15700] (.ak [QL 59 4 8,QL 60 4 3,Q 61 (.call 441 [.t 59,.t 60] [] []),Qx 62 0 61,Qx 63 1 61,Qs 4 6 62,Qm 7 63] [6,7] [6,11102,11103,15700]))
 (.ret))))))))
def cV.m:Fn:={np:=3,body:=cV.b,res:=[.cell 6 true 4,.tmp 7]}
def cV.k(M:Nat→Option Body):Prop:=M 409=some (.code cV.m)∧aJ.k M∧b4.k M∧dE.k M∧fm.k M∧dO.k M∧M 440=some (.ext A2)∧fM.k M
def eR.b:C:= .seq (.ak [Qv 5 0,Q 10 (.alloc [.int .i64 0,.int .i64 0,.aN 7,.aN 1]),Qb 11 false] [1,2,3,4,5,10] [5,10,11702,11703])
 (.seq (.ak [QL 16 4 5,Q 17 (.call 220 [.t 16] [] [(2,11702),(3,11703)]),Q 12 (.alloc [.int .i64 0,.int .i64 0,.aN 7,.aN 1]),Qs 4 12 17] [1,2,3,4,5,10,12] [5,10,12,11702,11703])
 (.seq (.ak [QL 18 4 5,Qm 19 1,Q 20 (.call 95 [.t 18,.t 19] [] []),Qm 13 20] [2,3,4,5,10,12,13] [5,10,12,11702,11703])
 (.seq (.seq (.ak [QL 21 4 5,Q 22 (.call 150 [.t 21] [] []),Q 23 (.not (.t 22)),Qm 24 23,Qg 25 (.load true 4 (.t 5)) 24 false,Qg 26 (.mv (.t 2)) 24 false,
   Qg 27 (.call 413 [.t 25,.t 26] [] []) 24 false,Q 28 (.pick (.t 24) (kB true) (.t 27)),Qm 29 28,Qg 30 (.mv (.t 13)) 29 false,Qg 31 (.bin .lss (.t 30) (kI 0)) 29 false,
   Q 32 (.pick (.t 29) (kB true) (.t 31))] [2,3,4,5,10,12,13,32] [5,10,12,11702,11703])
 (.cond (.t 32) (.seq (.shut [11702,11703] (.ak [QL 33 4 12,Qs 4 10 33,Qb 11 false] [10,11] [10,11702,11703]))
 (.ret)) (.skip)))
 (.seq (.gm [Qf 35 2 5,Ql 36 35,Qm 37 13,Qa 38 7 36 37,QL 39 7 38,Qm 40 2,Qm 41 3,Qm 42 4,QL 43 4 5,Q 44 (.call 431 [.t 43] [] []),
   Q 45 (.call 70 [.t 39,.t 40,.t 41,.t 42,.t 44] [] []),Qm 34 45,Qx 46 0 34,Qx 47 1 34,
   Q 14 (.alloc [.int .i64 0,.str ⟨#[]⟩,.int .i64 0,.int .i64 0,.int .i64 0,.aN 4,.aN 1]),Qs 7 14 46,Qm 15 47] [[],[0],[],[0,1,2],lr 4,[],[],[],[],[8],lr 10,lr 11,lr 12,lr 12,[],lr 13++[14],lr 16] [5,10,12,13,14,15] [5,10,12,14,11702,11703])
 (.seq (.seq (.ak [Qm 48 15,Q 49 (.not (.t 48))] [5,10,12,13,14,49] [5,10,12,14,11702,11703])
 (.cond (.t 49) (.seq (.shut [11702,11703] (.ak [QL 50 4 12,Qs 4 10 50,Qb 11 false] [10,11] [10,11702,11703]))
 (.ret)) (.skip)))
 (.seq (.ak [Qf 51 1 12,Ql 52 51,Q 53 (.bin .add (.t 52) (kI 1)),Qf 54 1 12,Qs 1 54 53] [5,10,12,13,14] [5,10,12,14,11702,11703])
 (.seq (.ak [Qf 55 2 12,Ql 56 55,Qm 57 13,QL 58 7 14,Qa 59 7 56 57,Qs 7 59 58] [5,10,12] [5,10,12,11702,11703])
 (.seq (.shut [11702,11703] (.ak [QL 60 4 12,QL 61 4 5,Q 62 (.call 441 [.t 60,.t 61] [] []),Qx 63 0 62,Qx 64 1 62,Qs 4 10 63,Qm 11 64] [10,11] [10,11702,11703]))
 (.ret)))))))))
def eR.m:Fn:={np:=5,body:=eR.b,res:=[.cell 10 true 4,.tmp 11]}
def eR.k(M:Nat→Option Body):Prop:=M 410=some (.code eR.m)∧dV.k M∧gf.k M∧aJ.k M∧b4.k M∧fm.k M∧dO.k M∧fM.k M
def dM.b:C:= .seq (.ak [Qv 3 0,Q 6 (.alloc [.int .i64 0,.int .i64 0,.aN 7,.aN 1]),Qb 7 false] [1,2,3,6] [3,6,11102,11103])
 (.seq (.ak [QL 10 4 3,Q 11 (.call 220 [.t 10] [] [(2,11102),(3,11103)]),Q 8 (.alloc [.int .i64 0,.int .i64 0,.aN 7,.aN 1]),Qs 4 8 11] [1,2,3,6,8] [3,6,8,11102,11103])
 (.seq (.ak [QL 12 4 3,Qm 13 1,Q 14 (.call 95 [.t 12,.t 13] [] []),Qm 9 14] [2,3,6,8,9] [3,6,8,11102,11103])
 (.seq (.seq (.ak [QL 15 4 3,Q 16 (.call 150 [.t 15] [] []),Q 17 (.not (.t 16)),Qm 18 17,Qg 19 (.mv (.t 9)) 18 false,Qg 20 (.bin .lss (.t 19) (kI 0)) 18 false,
   Q 21 (.pick (.t 18) (kB true) (.t 20)),Qm 22 21,Qg 23 (.load true 4 (.t 3)) 22 false,Qg 24 (.mv (.t 2)) 22 false,Qg 25 (.call 228 [.t 23,.t 24] [] []) 22 false,
   Qg 26 (.bin .geq (.t 25) (kI 0)) 22 false,Q 27 (.pick (.t 22) (kB true) (.t 26))] [2,3,6,8,9,27] [3,6,8,11102,11103])
 (.cond (.t 27) (.seq (.shut [11102,11103] (.ak [QL 28 4 8,Qs 4 6 28,Qb 7 false] [6,7] [6,11102,11103]))
 (.ret)) (.skip)))
 (.seq (.ak [Qf 29 1 8,Ql 30 29,Q 31 (.bin .add (.t 30) (kI 1)),Qf 32 1 8,Qs 1 32 31] [2,3,6,8,9] [3,6,8,11102,11103])
 (.seq (.ak [Qf 33 2 8,Ql 34 33,Qm 35 9,Qm 36 2,Qa 37 7 34 35,Qf 38 1 37,Qs 1 38 36] [3,6,8,9] [3,6,8,11102,11103])
 (.seq (.gm [Qf 39 2 8,Ql 40 39,Qm 41 9,QL 42 4 3,Q 43 (.call 431 [.t 42] [] []),Qa 44 7 40 41,Qf 45 2 44,Qs 2 45 43] [[],[0],[],[],[3],lr 5,lr 6,lr 7] [3,6,8] [3,6,8,11102,11103])
 (.seq (.shut [11102,11103] (.ak [QL 46 4 8,QL 47 4 3,Q 48 (.call 441 [.t 46,.t 47] [] []),Qx 49 0 48,Qx 50 1 48,Qs 4 6 49,Qm 7 50] [6,7] [6,11102,11103]))
 (.ret))))))))
def dM.m:Fn:={np:=3,body:=dM.b,res:=[.cell 6 true 4,.tmp 7]}
def dM.k(M:Nat→Option Body):Prop:=M 411=some (.code dM.m)∧gf.k M∧aJ.k M∧b4.k M∧dE.k M∧dO.k M∧fM.k M
def ba.b:C:= .seq (.ak [Q 6 (.nil 7)] [0,1,2] [0,26])
 (.seq (.ak [Qm 8 0,Qm 9 1,Qm 10 2,Qm 11 0,Q 12 (.len (.t 11)),Q 13 (.vn 7 (.t 8) (some (.t 9)) (some (.t 10)) (some (.t 12)))] [0,1,2] [0,26])
 (.seq (.seq (.ak [Qm 14 1,Qm 15 2,Q 16 (.bin .eql (.t 14) (.t 15))] [0,1,2,16] [0,26])
 (.cond (.t 16) (.seq (.ak [Qm 17 0,Qm 6 17] [6] [0,6,26])
 (.ret)) (.skip)))
 (.seq (.ak [Qm 18 0,Q 19 (.len (.t 18)),Qm 7 19] [0,1,2,7] [0,26])
 (.seq (.gm [Qm 20 0,Qm 21 1,Q 22 (.vn 7 (.t 20) none (some (.t 21)) none),Qm 23 0,Qm 24 2,Q 25 (.vn 7 (.t 23) (some (.t 24)) none none),Q 26 (.xh 7 96 (.t 22) (.t 25)),Qm 0 26] [[],[],[0,1],[],[],[3,4],lr 6,lr 7] [0,7] [0,26])
 (.seq (.ak [Qm 27 0,Qm 28 0,Q 29 (.len (.t 28)),Qm 30 7,Q 31 (.wU 7 (.t 27) (some (.t 29)) (some (.t 30))),
   Qn (.DF [.int .i64 0,.str ⟨#[]⟩,.int .i64 0,.int .i64 0,.int .i64 0,.aN 4,.aN 1] (.t 31))] [0] [0,26])
 (.seq (.ak [Qm 32 0,Qm 6 32] [6] [0,6,26])
 (.ret)))))))
def ba.m:Fn:={np:=3,body:=ba.b,res:=[.tmp 6]}
def ba.k(M:Nat→Option Body):Prop:=M 442=some (.code ba.m)
def fy.b:C:= .seq (.ak [Qv 2 0,Q 4 (.alloc [.int .i64 0,.int .i64 0,.aN 7,.aN 1]),Qb 5 false] [1,2,4] [2,4,10902,10903,13200,13700])
 (.seq (.ak [QL 8 4 2,Q 9 (.call 220 [.t 8] [] [(2,10902),(3,10903)]),Q 6 (.alloc [.int .i64 0,.int .i64 0,.aN 7,.aN 1]),Qs 4 6 9] [1,2,4,6] [2,4,6,10902,10903,13200,13700])
 (.seq (.ak [QL 10 4 2,Qm 11 1,Q 12 (.call 95 [.t 10,.t 11] [] []),Qm 7 12] [1,2,4,6,7] [2,4,6,10902,10903,13200,13700])
 (.seq (.seq (.ak [QL 13 4 2,Q 14 (.call 150 [.t 13] [] []),Q 15 (.not (.t 14)),Qm 16 15,Qg 17 (.mv (.t 7)) 16 false,Qg 18 (.bin .lss (.t 17) (kI 0)) 16 false,
   Q 19 (.pick (.t 16) (kB true) (.t 18)),Qm 20 19,Qg 21 (.bH 3 (.t 2)) 20 false,Qg 22 (.load false 1 (.t 21)) 20 false,Qg 23 (.len (.t 22)) 20 false,
   Qg 24 (.bin .eql (.t 23) (kI 20)) 20 false,Q 25 (.pick (.t 20) (kB true) (.t 24))] [1,2,4,6,7,25] [2,4,6,10902,10903,13200,13700])
 (.cond (.t 25) (.seq (.shut [10902,10903,13200,13700] (.ak [QL 26 4 6,Qs 4 4 26,Qb 5 false] [4,5] [4,10902,10903,13200,13700]))
 (.ret)) (.skip)))
 (.seq (.ak [Qf 27 2 6,Ql 28 27,Qm 29 7,Qm 30 7,Q 31 (.bin .add (.t 30) (kI 1)),Q 32 (.call 442 [.t 28,.t 29,.t 31] [0] [(0,13200)]),Qf 33 2 6,Qs 1 33 32] [1,2,4,6] [2,4,6,10902,10903,13200,13700])
 (.seq (.ak [Qf 34 3 2,Ql 35 34,Qm 36 1,Q 37 (.call 163 [.t 35,.t 36] [] [(0,13700)]),Qf 38 3 6,Qs 1 38 37] [4,6] [4,6,10902,10903,13200,13700])
 (.seq (.shut [10902,10903,13200,13700] (.ak [QL 39 4 6,Qs 4 4 39,Qb 5 true] [4,5] [4,10902,10903,13200,13700]))
 (.ret)))))))
def fy.m:Fn:={np:=2,body:=fy.b,res:=[.cell 4 true 4,.tmp 5]}
def fy.k(M:Nat→Option Body):Prop:=M 412=some (.code fy.m)∧gf.k M∧aJ.k M∧iR.k M∧b4.k M∧ba.k M
def eK.b:C:= .seq (.ak [Qv 4 0,Q 8 (.alloc [.int .i64 0,.int .i64 0,.aN 7,.aN 1]),Qb 9 false] [1,2,3,4,8] [4,8,11502,11503])
 (.seq (.ak [QL 14 4 4,Q 15 (.call 220 [.t 14] [] [(2,11502),(3,11503)]),Q 10 (.alloc [.int .i64 0,.int .i64 0,.aN 7,.aN 1]),Qs 4 10 15] [1,2,3,4,8,10] [4,8,10,11502,11503])
 (.seq (.ak [QL 16 4 4,Qm 17 1,Q 18 (.call 95 [.t 16,.t 17] [] []),Qm 11 18] [2,3,4,8,10,11] [4,8,10,11502,11503])
 (.seq (.seq (.ak [QL 19 4 4,Q 20 (.call 150 [.t 19] [] []),Q 21 (.not (.t 20)),Qm 22 21,Qg 23 (.mv (.t 11)) 22 false,Qg 24 (.bin .lss (.t 23) (kI 0)) 22 false,
   Q 25 (.pick (.t 22) (kB true) (.t 24))] [2,3,4,8,10,11,25] [4,8,10,11502,11503])
 (.cond (.t 25) (.seq (.shut [11502,11503] (.ak [QL 26 4 10,Qs 4 8 26,Qb 9 false] [8,9] [8,11502,11503]))
 (.ret)) (.skip)))
 (.seq (.gm [Qf 28 2 4,Ql 29 28,Qm 30 11,Qa 31 7 29 30,QL 32 7 31,Qm 33 2,Qm 34 3,QL 35 4 4,Q 36 (.call 431 [.t 35] [] []),Q 37 (.call 83 [.t 32,.t 33,.t 34,.t 36] [] []),Qm 27 37,
   Qx 38 0 27,Qx 39 1 27,Q 12 (.alloc [.int .i64 0,.str ⟨#[]⟩,.int .i64 0,.int .i64 0,.int .i64 0,.aN 4,.aN 1]),Qs 7 12 38,Qm 13 39] [[],[0],[],[0,1,2],lr 4,[],[],[],[7],lr 9,lr 10,lr 11,lr 11,[],lr 12++[13],lr 15] [4,8,10,11,12,13] [4,8,10,12,11502,11503])
 (.seq (.seq (.ak [Qm 40 13,Q 41 (.not (.t 40))] [4,8,10,11,12,41] [4,8,10,12,11502,11503])
 (.cond (.t 41) (.seq (.shut [11502,11503] (.ak [QL 42 4 10,Qs 4 8 42,Qb 9 false] [8,9] [8,11502,11503]))
 (.ret)) (.skip)))
 (.seq (.ak [Qf 43 1 10,Ql 44 43,Q 45 (.bin .add (.t 44) (kI 1)),Qf 46 1 10,Qs 1 46 45] [4,8,10,11,12] [4,8,10,12,11502,11503])
 (.seq (.ak [Qf 47 2 10,Ql 48 47,Qm 49 11,QL 50 7 12,Qa 51 7 48 49,Qs 7 51 50] [4,8,10] [4,8,10,11502,11503])
 (.seq (.shut [11502,11503] (.ak [QL 52 4 10,QL 53 4 4,Q 54 (.call 441 [.t 52,.t 53] [] []),Qx 55 0 54,Qx 56 1 54,Qs 4 8 55,Qm 9 56] [8,9] [8,11502,11503]))
 (.ret)))))))))
def eK.m:Fn:={np:=4,body:=eK.b,res:=[.cell 8 true 4,.tmp 9]}
def eK.k(M:Nat→Option Body):Prop:=M 428=some (.code eK.m)∧dD.k M∧gf.k M∧aJ.k M∧b4.k M∧dO.k M∧fM.k M
def eM.b:C:= .seq (.ak [Qv 3 0,Q 6 (.alloc [.int .i64 0,.int .i64 0,.aN 7,.aN 1]),Qb 7 false] [1,2,3,6] [3,6,11302,11303])
 (.seq (.ak [QL 12 4 3,Q 13 (.call 220 [.t 12] [] [(2,11302),(3,11303)]),Q 8 (.alloc [.int .i64 0,.int .i64 0,.aN 7,.aN 1]),Qs 4 8 13] [1,2,3,6,8] [3,6,8,11302,11303])
 (.seq (.ak [QL 14 4 3,Qm 15 1,Q 16 (.call 95 [.t 14,.t 15] [] []),Qm 9 16] [2,3,6,8,9] [3,6,8,11302,11303])
 (.seq (.seq (.ak [QL 17 4 3,Q 18 (.call 150 [.t 17] [] []),Q 19 (.not (.t 18)),Qm 20 19,Qg 21 (.mv (.t 9)) 20 false,Qg 22 (.bin .lss (.t 21) (kI 0)) 20 false,
   Q 23 (.pick (.t 20) (kB true) (.t 22))] [2,3,6,8,9,23] [3,6,8,11302,11303])
 (.cond (.t 23) (.seq (.shut [11302,11303] (.ak [QL 24 4 8,Qs 4 6 24,Qb 7 false] [6,7] [6,11302,11303]))
 (.ret)) (.skip)))
 (.seq (.ak [Qf 26 2 3,Ql 27 26,Qm 28 9,Qa 29 7 27 28,QL 30 7 29,Qm 31 2,Q 32 (.call 73 [.t 30,.t 31] [] []),Qm 25 32,Qx 33 0 25,Qx 34 1 25,
   Q 10 (.alloc [.int .i64 0,.str ⟨#[]⟩,.int .i64 0,.int .i64 0,.int .i64 0,.aN 4,.aN 1]),Qs 7 10 33,Qm 11 34] [6,8,9,10,11] [6,8,10,11302,11303])
 (.seq (.seq (.ak [Qm 35 11,Q 36 (.not (.t 35))] [6,8,9,10,36] [6,8,10,11302,11303])
 (.cond (.t 36) (.seq (.shut [11302,11303] (.ak [QL 37 4 8,Qs 4 6 37,Qb 7 false] [6,7] [6,11302,11303]))
 (.ret)) (.skip)))
 (.seq (.ak [Qf 38 2 8,Ql 39 38,Qm 40 9,QL 41 7 10,Qa 42 7 39 40,Qs 7 42 41] [6,8] [6,8,11302,11303])
 (.seq (.shut [11302,11303] (.ak [QL 43 4 8,Qs 4 6 43,Qb 7 true] [6,7] [6,11302,11303]))
 (.ret))))))))
def eM.m:Fn:={np:=3,body:=eM.b,res:=[.cell 6 true 4,.tmp 7]}
def eM.k(M:Nat→Option Body):Prop:=M 429=some (.code eM.m)∧fx.k M∧gf.k M∧aJ.k M∧b4.k M
def fI.b:C:= .seq (.ak [Qv 2 0,Qv 3 1,Qb 4 false] [2,3] [2,3])
 (.seq (.ak [Qf 5 0 2,Ql 6 5,Qf 7 0 3,Ql 8 7,Q 9 (.bin .eql (.t 6) (.t 8)),Qm 10 9,Qg 11 (.bH 1 (.t 2)) 10 true,Qg 12 (.load false 1 (.t 11)) 10 true,Qg 13 (.bH 1 (.t 3)) 10 true,
   Qg 14 (.load false 1 (.t 13)) 10 true,Qg 15 (.bin .eql (.t 12) (.t 14)) 10 true,Q 16 (.pick (.t 10) (.t 15) (kB false)),Qm 17 16,Qg 18 (.load true 4 (.t 2)) 17 true,
   Qg 19 (.load true 4 (.t 3)) 17 true,Qg 20 (.call 31 [.t 18,.t 19] [] []) 17 true,Q 21 (.pick (.t 17) (.t 20) (kB false)),Qm 4 21] [4] [])
 (.ret))
def fI.m:Fn:={np:=2,body:=fI.b,res:=[.tmp 4]}
def fI.k(M:Nat→Option Body):Prop:=M 421=some (.code fI.m)∧cU.k M
def gG.b:C:= .seq (.ak [Q 2 (.mv (.k (.str ⟨#[]⟩)))] [0] [])
 (.seq (.ak [Qm 3 0,Q 4 (.bin .shr (.t 3) (.k (.int .u64 24))),Q 5 (.rB .u8 (.t 4)),Qm 6 0,Q 7 (.bin .shr (.t 6) (.k (.int .u64 16))),Q 8 (.rB .u8 (.t 7)),Qm 9 0,
   Q 10 (.bin .shr (.t 9) (.k (.int .u64 8))),Q 11 (.rB .u8 (.t 10)),Qm 12 0,Q 13 (.rB .u8 (.t 12)),
   Q 14 (.bZ 1 4 [.int .u8 0] [(0,.t 5),(1,.t 8),(2,.t 11),(3,.t 13)]),Q 15 (.E_ (.t 14)),Qm 2 15] [2] [])
 (.ret))
def gG.m:Fn:={np:=1,body:=gG.b,res:=[.tmp 2]}
def gG.k(M:Nat→Option Body):Prop:=M 202=some (.code gG.m)
def cI.l1:C:= .seq (.seq (.ak [Qm 20 6,Q 21 (.bin .lss (.t 20) (kI 8))] [0,1,5,6,21] [])
 (.cond (.t 21) (.skip) (.exit 2)))
 (.seq (.block 3 (.seq (.ak [Qm 24 0,Q 25 (.bin .rem (.t 24) (.k (.int .u32 2))),Q 26 (.bin .eql (.t 25) (.k (.int .u32 1))),Qm 7 26] [0,1,5,6,7] [])
 (.seq (.ak [Qm 27 0,Q 28 (.bin .quo (.t 27) (.k (.int .u32 2))),Qm 0 28] [0,1,5,6,7] [])
 (.seq (.ak [Qm 29 7] [0,1,5,6,29] [])
 (.cond (.t 29) (.ak [Qm 30 0,Q 31 (.bin .xor (.t 30) (.k (.int .u32 3558460437))),Qm 0 31] [0,1,5,6] []) (.skip))))))
 (.ak [Qm 22 6,Q 23 (.bin .add (.t 22) (kI 1)),Qm 6 23] [0,1,5,6] []))
def cI.l0:C:= .seq (.seq (.ak [Qm 8 5,Qm 9 1,Q 10 (.lC (.t 9)),Q 11 (.bin .lss (.t 8) (.t 10))] [0,1,5,11] [])
 (.cond (.t 11) (.skip) (.exit 0)))
 (.seq (.block 1 (.seq (.ak [Qm 14 0,Qm 15 1,Qm 16 5,Q 17 (.idx (.t 15) (.t 16)),Q 18 (.rB .u32 (.t 17)),Q 19 (.bin .xor (.t 14) (.t 18)),Qm 0 19] [0,1,5] [])
 (.seq (.ak [Qi 6 0] [0,1,5,6] [])
 (.block 2 (.loop cI.l1)))))
 (.ak [Qm 12 5,Q 13 (.bin .add (.t 12) (kI 1)),Qm 5 13] [0,1,5] []))
def cI.b:C:= .seq (.ak [Q 4 (.mv (.k (.int .u32 0)))] [0,1] [])
 (.seq (.seq (.ak [Qi 5 0] [0,1,5] [])
 (.block 0 (.loop cI.l0)))
 (.seq (.ak [Qm 32 0,Qm 4 32] [4] [])
 (.ret)))
def cI.m:Fn:={np:=2,body:=cI.b,res:=[.tmp 4]}
def cI.k(M:Nat→Option Body):Prop:=M 248=some (.code cI.m)
def iQ.b:C:= .seq (.ak [Q 2 (.mv (.k (.int .u32 0)))] [0] [])
 (.seq (.ak [Qm 3 0,Q 4 (.call 248 [.k (.int .u32 4294967295),.t 3] [] []),Qm 2 4] [2] [])
 (.ret))
def iQ.m:Fn:={np:=1,body:=iQ.b,res:=[.tmp 2]}
def iQ.k(M:Nat→Option Body):Prop:=M 201=some (.code iQ.m)∧cI.k M
def cJ.l1:C:= .seq (.ak [Q 20 (.bin .lss (.t 19) (kI 8))] [0,1,5,19,20] [])
 (.seq (.cond (.t 20) (.skip) (.exit 2))
 (.seq (.block 3 (.seq (.ak [Qm 21 0,Q 22 (.bin .and (.t 21) (.k (.int .u32 1))),Qm 6 22] [0,1,5,6,19] [])
 (.seq (.ak [Qm 23 0,Q 24 (.bin .shr (.t 23) (.k (.int .u64 1))),Qm 0 24] [0,1,5,6,19] [])
 (.seq (.ak [Qm 25 6,Q 26 (.bin .eql (.t 25) (.k (.int .u32 1)))] [0,1,5,19,26] [])
 (.cond (.t 26) (.ak [Qm 27 0,Q 28 (.bin .xor (.t 27) (.k (.int .u32 3558460437))),Qm 0 28] [0,1,5,19] []) (.skip))))))
 (.ak [Q 29 (.bin .add (.t 19) (kI 1)),Qm 19 29] [0,1,5,19] [])))
def cJ.l0:C:= .seq (.seq (.ak [Qm 7 5,Qm 8 1,Q 9 (.lC (.t 8)),Q 10 (.bin .lss (.t 7) (.t 9))] [0,1,5,10] [])
 (.cond (.t 10) (.skip) (.exit 0)))
 (.seq (.block 1 (.seq (.ak [Qm 13 0,Qm 14 1,Qm 15 5,Q 16 (.idx (.t 14) (.t 15)),Q 17 (.rB .u32 (.t 16)),Q 18 (.bin .xor (.t 13) (.t 17)),Qm 0 18] [0,1,5] [])
 (.seq (.ak [Qi 19 0] [0,1,5,19] [])
 (.block 2 (.loop cJ.l1)))))
 (.ak [Qm 11 5,Q 12 (.bin .add (.t 11) (kI 1)),Qm 5 12] [0,1,5] []))
def cJ.b:C:= .seq (.ak [Q 4 (.mv (.k (.int .u32 0)))] [0,1] [])
 (.seq (.seq (.ak [Qi 5 0] [0,1,5] [])
 (.block 0 (.loop cJ.l0)))
 (.seq (.ak [Qm 30 0,Qm 4 30] [4] [])
 (.ret)))
def cJ.m:Fn:={np:=2,body:=cJ.b,res:=[.tmp 4]}
def cJ.k(M:Nat→Option Body):Prop:=M 249=some (.code cJ.m)
def jk.b:C:= .seq (.ak [Q 2 (.mv (.k (.int .u32 0)))] [0] [])
 (.seq (.ak [Qm 3 0,Q 4 (.call 249 [.k (.int .u32 4294967295),.t 3] [] []),Qm 2 4] [2] [])
 (.ret))
def jk.m:Fn:={np:=1,body:=jk.b,res:=[.tmp 2]}
def jk.k(M:Nat→Option Body):Prop:=M 203=some (.code jk.m)∧cJ.k M
def ig.b:C:= .seq (.ak [Q 2 (.mv (.k (.str ⟨#[]⟩))),Qb 3 false] [0] [])
 (.seq (.seq (.ak [Qm 4 0,Q 5 (.lC (.t 4)),Q 6 (.bin .gtr (.t 5) (kI 20000))] [0,6] [])
 (.cond (.t 6) (.seq (.ak [Q 2 (.mv (.k (.str ⟨#[]⟩))),Qb 3 false] [2,3] [])
 (.ret)) (.skip)))
 (.seq (.ak [Qm 7 0,Qm 8 0,Q 9 (.call 201 [.t 8] [] []),Q 10 (.call 202 [.t 9] [] []),Q 11 (.bin .add (.t 7) (.t 10)),Qm 2 11,Qb 3 true] [2,3] [])
 (.ret)))
def ig.m:Fn:={np:=1,body:=ig.b,res:=[.tmp 2,.tmp 3]}
def ig.k(M:Nat→Option Body):Prop:=M 100=some (.code ig.m)∧iQ.k M∧gG.k M
def eI.b:C:= .seq (.ak [Q 2 (.mv (.k (.str ⟨#[]⟩))),Qb 3 false] [0] [])
 (.seq (.ak [Qm 5 0,Q 6 (.lC (.t 5)),Q 7 (.bin .sub (.t 6) (kI 4)),Qm 4 7] [0,4] [])
 (.seq (.seq (.gm [Qm 8 4,Q 9 (.bin .lss (.t 8) (kI 0)),Qm 10 9,Qg 11 (.mv (.t 4)) 10 false,Qg 12 (.bin .gtr (.t 11) (kI 20000)) 10 false,Q 13 (.pick (.t 10) (kB true) (.t 12)),Qm 14 13,
   Qg 15 (.mv (.t 0)) 14 false,Qg 16 (.mv (.t 4)) 14 false,Qg 17 (.nR (.t 15) (some (.t 16)) none) 14 false,Qg 18 (.mv (.t 0)) 14 false,Qg 19 (.mv (.t 4)) 14 false,
   Qg 20 (.nR (.t 18) none (some (.t 19))) 14 false,Qg 21 (.call 201 [.t 20] [] []) 14 false,Qg 22 (.call 202 [.t 21] [] []) 14 false,Qg 23 (.bin .neq (.t 17) (.t 22)) 14 false,
   Q 24 (.pick (.t 14) (kB true) (.t 23))] [[],[0],[0,1],[0,1,2],[0,1,2,3],[0,1,2,3,4],[0,1,2,3,4,5],[0,1,2,3,4,5,6],[0,1,2,3,4,5,6],[0,1,2,3,4,5,6,7,8],[0,1,2,3,4,5,6],[0,1,2,3,4,5,6],[0,1,2,3,4,5,6,10,11],[0,1,2,3,4,5,6,10,11,12],[0,1,2,3,4,5,6,10,11,12,13],[0,1,2,3,4,5,6,7,8,9,10,11,12,13,14],[0,1,2,3,4,5,6,7,8,9,10,11,12,13,14,15]] [0,4,24] [])
 (.cond (.t 24) (.seq (.ak [Q 2 (.mv (.k (.str ⟨#[]⟩))),Qb 3 false] [2,3] [])
 (.ret)) (.skip)))
 (.seq (.ak [Qm 25 0,Qm 26 4,Q 27 (.nR (.t 25) none (some (.t 26))),Qm 2 27,Qb 3 true] [2,3] [])
 (.ret))))
def eI.m:Fn:={np:=1,body:=eI.b,res:=[.tmp 2,.tmp 3]}
def eI.k(M:Nat→Option Body):Prop:=M 167=some (.code eI.m)∧iQ.k M∧gG.k M
def gD.b:C:= .seq (.ak [Qi 4 0] [0,1] [])
 (.seq (.gm [Qm 5 0,Qm 6 1,Q 7 (.idx (.t 5) (.t 6)),Q 8 (.rB .i64 (.t 7)),Q 9 (.bin .shl (.t 8) (.k (.int .u64 24))),Qm 10 0,Qm 11 1,Q 12 (.bin .add (.t 11) (kI 1)),
   Q 13 (.idx (.t 10) (.t 12)),Q 14 (.rB .i64 (.t 13)),Q 15 (.bin .shl (.t 14) (.k (.int .u64 16))),Q 16 (.bin .or (.t 9) (.t 15)),Qm 17 0,Qm 18 1,
   Q 19 (.bin .add (.t 18) (kI 2)),Q 20 (.idx (.t 17) (.t 19)),Q 21 (.rB .i64 (.t 20)),Q 22 (.bin .shl (.t 21) (.k (.int .u64 8))),Q 23 (.bin .or (.t 16) (.t 22)),Qm 24 0,
   Qm 25 1,Q 26 (.bin .add (.t 25) (kI 3)),Q 27 (.idx (.t 24) (.t 26)),Q 28 (.rB .i64 (.t 27)),Q 29 (.bin .or (.t 23) (.t 28)),Qm 4 29] [[],[],[0,1],[0,1,2],[0,1,2,3],[],[],[6],[5,6,7],[5,6,7,8],[5,6,7,8,9],[0,1,2,3,4,5,6,7,8,9,10],[],[],[13],[12,13,14],[12,13,14,15],[12,13,14,15,16],[0,1,2,3,4,5,6,7,8,9,10,11,12,13,14,15,16,17],[],[],[20],[19,20,21],[19,20,21,22],[0,1,2,3,4,5,6,7,8,9,10,11,12,13,14,15,16,17,18,19,20,21,22,23],[0,1,2,3,4,5,6,7,8,9,10,11,12,13,14,15,16,17,18,19,20,21,22,23,24]] [4] [])
 (.ret))
def gD.m:Fn:={np:=2,body:=gD.b,res:=[.tmp 4]}
def gD.k(M:Nat→Option Body):Prop:=M 236=some (.code gD.m)
def fC.b:C:= .seq (.ak [Q 2 (.mv (.k (.str ⟨#[]⟩))),Qb 3 false] [0] [])
 (.seq (.ak [Qm 5 0,Q 6 (.lC (.t 5)),Q 7 (.bin .sub (.t 6) (kI 4)),Qm 4 7] [0,4] [])
 (.seq (.seq (.ak [Qm 8 4,Q 9 (.call 101 [.t 8,kI 0,kI 20000] [] []),Q 10 (.not (.t 9)),Qm 11 10,Qg 12 (.mv (.t 0)) 11 false,Qg 13 (.mv (.t 4)) 11 false,
   Qg 14 (.nR (.t 12) none (some (.t 13))) 11 false,Qg 15 (.call 203 [.t 14] [] []) 11 false,Qg 16 (.rB .i64 (.t 15)) 11 false,Qg 17 (.mv (.t 0)) 11 false,
   Qg 18 (.mv (.t 4)) 11 false,Qg 19 (.call 236 [.t 17,.t 18] [] []) 11 false,Qg 20 (.bin .neq (.t 16) (.t 19)) 11 false,Q 21 (.pick (.t 11) (kB true) (.t 20))] [0,4,21] [])
 (.cond (.t 21) (.seq (.ak [Q 2 (.mv (.k (.str ⟨#[]⟩))),Qb 3 false] [2,3] [])
 (.ret)) (.skip)))
 (.seq (.ak [Qm 22 0,Qm 23 4,Q 24 (.nR (.t 22) none (some (.t 23))),Qm 2 24,Qb 3 true] [2,3] [])
 (.ret))))
def fC.m:Fn:={np:=1,body:=fC.b,res:=[.tmp 2,.tmp 3]}
def fC.k(M:Nat→Option Body):Prop:=M 168=some (.code fC.m)∧b_.k M∧jk.k M∧gD.k M
def b8.b:C:= .seq (.ak [Qi 2 0] [0] [0])
 (.seq (.gm [Qm 7 0,Q 8 (.jG (.t 7)),Qf 9 0 8,Ql 10 9,Qm 11 0,Q 12 (.jG (.t 11)),Qf 13 1 12,Ql 14 13,Q 15 (.call 231 [.t 10,.t 14] [] []),Qm 6 15,Qx 16 0 6,Qx 17 1 6,Qx 18 2 6,
   Qm 3 16,Qm 4 17,Qm 5 18] [[],[0],[0,1],[0,1,2],[],[4],[4,5],[4,5,6],lr 8,lr 9,lr 10,lr 10,lr 10,lr 11,lr 12++[13],lr 15] [0,3,4,5] [0])
 (.seq (.seq (.ak [Qm 19 0,Q 20 (.jG (.t 19)),Qf 21 2 20,Ql 22 21,Qm 23 22,Qg 24 (.mv (.t 5)) 23 false,Qg 25 (.not (.t 24)) 23 false,Q 26 (.pick (.t 23) (kB true) (.t 25))] [0,3,4,26] [0])
 (.cond (.t 26) (.seq (.ak [Qm 27 0,Q 28 (.jG (.t 27)),Qf 29 2 28,Qn (.store 1 (.t 29) (kB true))] [] [0])
 (.seq (.ak [Qi 2 0] [2] [0])
 (.ret))) (.skip)))
 (.seq (.ak [Qm 30 0,Qm 31 4,Q 32 (.jG (.t 30)),Qf 33 1 32,Qs 1 33 31] [3] [0])
 (.seq (.ak [Qm 34 3,Qm 2 34] [2] [0])
 (.ret)))))
def b8.m:Fn:={np:=1,body:=b8.b,res:=[.tmp 2]}
def b8.k(M:Nat→Option Body):Prop:=M 152=some (.code b8.m)∧cn.k M
def dK.b:C:= .seq (.ak [Qi 4 0] [0,1] [0])
 (.seq (.ak [Qm 6 0,Q 7 (.call 152 [.t 6] [0] []),Qm 5 7] [0,1,5] [0])
 (.seq (.seq (.ak [Qm 8 5,Qm 9 1,Q 10 (.bin .gtr (.t 8) (.t 9))] [0,5,10] [0])
 (.cond (.t 10) (.ak [Qm 11 0,Q 12 (.jG (.t 11)),Qf 13 2 12,Qn (.store 1 (.t 13) (kB true))] [0,5] [0]) (.skip)))
 (.seq (.seq (.ak [Qm 14 0,Q 15 (.jG (.t 14)),Qf 16 2 15,Ql 17 16] [5,17] [0])
 (.cond (.t 17) (.seq (.ak [Qi 4 0] [4] [0])
 (.ret)) (.skip)))
 (.seq (.ak [Qm 18 5,Qm 4 18] [4] [0])
 (.ret)))))
def dK.m:Fn:={np:=2,body:=dK.b,res:=[.tmp 4]}
def dK.k(M:Nat→Option Body):Prop:=M 169=some (.code dK.m)∧b8.k M
def fb.b:C:= .seq (.ak [Q 2 (.mv (.k (.str ⟨#[]⟩)))] [0] [0])
 (.seq (.gm [Qm 7 0,Q 8 (.jG (.t 7)),Qf 9 0 8,Ql 10 9,Qm 11 0,Q 12 (.jG (.t 11)),Qf 13 1 12,Ql 14 13,Q 15 (.call 207 [.t 10,.t 14] [] []),Qm 6 15,Qx 16 0 6,Qx 17 1 6,Qx 18 2 6,
   Qm 3 16,Qm 4 17,Qm 5 18] [[],[0],[0,1],[0,1,2],[],[4],[4,5],[4,5,6],lr 8,lr 9,lr 10,lr 10,lr 10,lr 11,lr 12++[13],lr 15] [0,3,4,5] [0])
 (.seq (.seq (.ak [Qm 19 0,Q 20 (.jG (.t 19)),Qf 21 2 20,Ql 22 21,Qm 23 22,Qg 24 (.mv (.t 5)) 23 false,Qg 25 (.not (.t 24)) 23 false,Q 26 (.pick (.t 23) (kB true) (.t 25))] [0,3,4,26] [0])
 (.cond (.t 26) (.seq (.ak [Qm 27 0,Q 28 (.jG (.t 27)),Qf 29 2 28,Qn (.store 1 (.t 29) (kB true))] [] [0])
 (.seq (.ak [Q 2 (.mv (.k (.str ⟨#[]⟩)))] [2] [0])
 (.ret))) (.skip)))
 (.seq (.ak [Qm 30 0,Qm 31 4,Q 32 (.jG (.t 30)),Qf 33 1 32,Qs 1 33 31] [3] [0])
 (.seq (.ak [Qm 34 3,Qm 2 34] [2] [0])
 (.ret)))))
def fb.m:Fn:={np:=1,body:=fb.b,res:=[.tmp 2]}
def fb.k(M:Nat→Option Body):Prop:=M 153=some (.code fb.m)∧dN.k M
def fa.b:C:= .seq (.ak [Q 2 (.alloc [.int .i64 0,.int .i64 0])] [0,2] [0,2])
 (.seq (.ak [Qm 4 0,Q 5 (.call 152 [.t 4] [0] []),Q 6 (.build [.int .i64 0,.int .i64 0] [(0,1,.t 5)]),Q 3 (.alloc [.int .i64 0,.int .i64 0]),Qs 2 3 6] [0,2,3] [0,2,3])
 (.seq (.ak [Qm 7 0,Q 8 (.call 152 [.t 7] [0] []),Qf 9 1 3,Qs 1 9 8] [2,3] [0,2,3])
 (.seq (.ak [QL 10 2 3,Qs 2 2 10] [2] [0,2])
 (.ret))))
def fa.m:Fn:={np:=1,body:=fa.b,res:=[.cell 2 true 2]}
def fa.k(M:Nat→Option Body):Prop:=M 222=some (.code fa.m)∧b8.k M
def dm.l0:C:= .seq (.ak [Q 14 (.bin .lss (.t 13) (.t 12))] [0,5,12,13,14] [0,8,20])
 (.seq (.cond (.t 14) (.skip) (.exit 0))
 (.seq (.block 1 (.seq (.ak [Qm 15 0,Q 16 (.call 152 [.t 15] [0] []),Qm 7 16] [0,5,7,12,13] [0,8,20])
 (.ak [Qm 17 5,Qm 18 7,Q 19 (.bZ 1 1 [.int .i64 0] [(0,.t 18)]),Q 20 (.app 1 8 (.t 17) (.t 19)),Qm 5 20] [0,5,12,13] [0,8,20])))
 (.ak [Q 21 (.bin .add (.t 13) (kI 1)),Qm 13 21] [0,5,12,13] [0,8,20])))
def dm.b:C:= .seq (.ak [Q 4 (.nil 1)] [0,1] [0])
 (.seq (.ak [Q 8 (.bZ 1 0 [.int .i64 0] []),Qm 5 8] [0,1,5] [0,8,20])
 (.seq (.ak [Qm 9 0,Qm 10 1,Q 11 (.call 169 [.t 9,.t 10] [0] []),Qm 6 11] [0,5,6] [0,8,20])
 (.seq (.seq (.ak [Qm 12 6,Qi 13 0] [0,5,12,13] [0,8,20])
 (.block 0 (.loop dm.l0)))
 (.seq (.ak [Qm 22 5,Qm 4 22] [4] [0,4,8,20])
 (.ret)))))
def dm.m:Fn:={np:=2,body:=dm.b,res:=[.tmp 4]}
def dm.k(M:Nat→Option Body):Prop:=M 170=some (.code dm.m)∧b8.k M∧dK.k M
def dL.l0:C:= .seq (.ak [Q 12 (.bin .lss (.t 11) (kI 3))] [0,2,3,11,12] [0,2,3,23])
 (.seq (.cond (.t 12) (.skip) (.exit 0))
 (.seq (.block 1 (.seq (.ak [Qm 13 0,Q 14 (.call 152 [.t 13] [0] []),Q 15 (.build [.int .i64 0,.int .i64 0,.int .i64 0] [(0,1,.t 14)]),Q 4 (.alloc [.int .i64 0,.int .i64 0,.int .i64 0]),Qs 3 4 15] [0,2,3,4,11] [0,2,3,4,23])
 (.seq (.ak [Qm 16 0,Q 17 (.call 222 [.t 16] [0] []),Qf 18 1 4,Qs 2 18 17] [0,2,3,4,11] [0,2,3,4,23])
 (.ak [Qf 19 2 3,Ql 20 19,QL 21 3 4,Q 22 (.bZ 3 1 [.int .i64 0,.int .i64 0,.int .i64 0] [(0,.t 21)]),Q 23 (.app 3 24 (.t 20) (.t 22)),Qf 24 2 3,Qs 1 24 23] [0,2,3,11] [0,2,3,23]))))
 (.ak [Q 25 (.bin .add (.t 11) (kI 1)),Qm 11 25] [0,2,3,11] [0,2,3,23])))
def dL.b:C:= .seq (.ak [Q 2 (.alloc [.int .i64 0,.int .i64 0,.aN 3,.str ⟨#[]⟩])] [0,2] [0,2,23])
 (.seq (.ak [Qm 5 0,Q 6 (.call 152 [.t 5] [0] []),Q 7 (.build [.int .i64 0,.int .i64 0,.aN 3,.str ⟨#[]⟩] [(0,1,.t 6)]),Q 3 (.alloc [.int .i64 0,.int .i64 0,.aN 3,.str ⟨#[]⟩]),
   Qs 4 3 7] [0,2,3] [0,2,3,23])
 (.seq (.ak [Qm 8 0,Q 9 (.call 152 [.t 8] [0] []),Qf 10 1 3,Qs 1 10 9] [0,2,3] [0,2,3,23])
 (.seq (.seq (.ak [Qi 11 0] [0,2,3,11] [0,2,3,23])
 (.block 0 (.loop dL.l0)))
 (.seq (.ak [Qm 26 0,Q 27 (.call 153 [.t 26] [0] []),Qf 28 3 3,Qs 1 28 27] [2,3] [0,2,3,23])
 (.seq (.ak [QL 29 4 3,Qs 4 2 29] [2] [0,2,23])
 (.ret))))))
def dL.m:Fn:={np:=1,body:=dL.b,res:=[.cell 2 true 4]}
def dL.k(M:Nat→Option Body):Prop:=M 223=some (.code dL.m)∧b8.k M∧fb.k M∧fa.k M
def dn.l0:C:= .seq (.ak [Q 22 (.bin .lss (.t 21) (.t 20))] [0,2,3,20,21,22] [0,2,3,29,13300])
 (.seq (.cond (.t 22) (.skip) (.exit 0))
 (.seq (.block 1 (.seq (.ak [Qm 23 0,Q 24 (.call 223 [.t 23] [0] []),Q 5 (.alloc [.int .i64 0,.int .i64 0,.aN 3,.str ⟨#[]⟩]),Qs 4 5 24] [0,2,3,5,20,21] [0,2,3,5,29,13300])
 (.ak [Qf 25 5 3,Ql 26 25,QL 27 4 5,Q 28 (.bZ 4 1 [.int .i64 0,.int .i64 0,.aN 3,.str ⟨#[]⟩] [(0,.t 27)]),Q 29 (.app 4 56 (.t 26) (.t 28)),Qf 30 5 3,Qs 1 30 29] [0,2,3,20,21] [0,2,3,29,13300])))
 (.ak [Q 31 (.bin .add (.t 21) (kI 1)),Qm 21 31] [0,2,3,20,21] [0,2,3,29,13300])))
def dn.b:C:= .seq (.ak [Q 2 (.alloc [.int .i64 0,.str ⟨#[]⟩,.int .i64 0,.int .i64 0,.int .i64 0,.aN 4,.aN 1])] [0,2] [0,2,29,13300])
 (.seq (.ak [Qm 6 0,Q 7 (.call 152 [.t 6] [0] []),Q 8 (.build [.int .i64 0,.str ⟨#[]⟩,.int .i64 0,.int .i64 0,.int .i64 0,.aN 4,.aN 1] [(0,1,.t 7)]),
   Q 3 (.alloc [.int .i64 0,.str ⟨#[]⟩,.int .i64 0,.int .i64 0,.int .i64 0,.aN 4,.aN 1]),Qs 7 3 8] [0,2,3] [0,2,3,29,13300])
 (.seq (.ak [Qm 9 0,Q 10 (.call 153 [.t 9] [0] []),Qf 11 1 3,Qs 1 11 10] [0,2,3] [0,2,3,29,13300])
 (.seq (.ak [Qm 12 0,Q 13 (.call 222 [.t 12] [0] []),Qf 14 2 3,Qs 2 14 13] [0,2,3] [0,2,3,29,13300])
 (.seq (.ak [Qm 15 0,Q 16 (.call 152 [.t 15] [0] []),Qf 17 4 3,Qs 1 17 16] [0,2,3] [0,2,3,29,13300])
 (.seq (.ak [Qm 18 0,Q 19 (.call 169 [.t 18,kI 10] [0] []),Qm 4 19] [0,2,3,4] [0,2,3,29,13300])
 (.seq (.seq (.ak [Qm 20 4,Qi 21 0] [0,2,3,20,21] [0,2,3,29,13300])
 (.block 0 (.loop dn.l0)))
 (.seq (.ak [Qm 32 0,Q 33 (.call 170 [.t 32,kI 40] [0] [(0,13300)]),Qf 34 6 3,Qs 1 34 33] [2,3] [0,2,3,29,13300])
 (.seq (.ak [QL 35 7 3,Qs 7 2 35] [2] [0,2,29,13300])
 (.ret)))))))))
def dn.m:Fn:={np:=1,body:=dn.b,res:=[.cell 2 true 7]}
def dn.k(M:Nat→Option Body):Prop:=M 143=some (.code dn.m)∧b8.k M∧fb.k M∧dK.k M∧dm.k M∧fa.k M∧dL.k M
def cD.b:C:= .seq (.ak [Qi 2 0] [0] [0])
 (.seq (.gm [Qm 7 0,Q 8 (.jG (.t 7)),Qf 9 0 8,Ql 10 9,Qm 11 0,Q 12 (.jG (.t 11)),Qf 13 1 12,Ql 14 13,Q 15 (.call 221 [.t 10,.t 14] [] []),Qm 6 15,Qx 16 0 6,Qx 17 1 6,Qx 18 2 6,
   Qm 3 16,Qm 4 17,Qm 5 18] [[],[0],[0,1],[0,1,2],[],[4],[4,5],[4,5,6],lr 8,lr 9,lr 10,lr 10,lr 10,lr 11,lr 12++[13],lr 15] [0,3,4,5] [0])
 (.seq (.seq (.ak [Qm 19 0,Q 20 (.jG (.t 19)),Qf 21 2 20,Ql 22 21,Qm 23 22,Qg 24 (.mv (.t 5)) 23 false,Qg 25 (.not (.t 24)) 23 false,Q 26 (.pick (.t 23) (kB true) (.t 25))] [0,3,4,26] [0])
 (.cond (.t 26) (.seq (.ak [Qm 27 0,Q 28 (.jG (.t 27)),Qf 29 2 28,Qn (.store 1 (.t 29) (kB true))] [] [0])
 (.seq (.ak [Qi 2 0] [2] [0])
 (.ret))) (.skip)))
 (.seq (.ak [Qm 30 0,Qm 31 4,Q 32 (.jG (.t 30)),Qf 33 1 32,Qs 1 33 31] [3] [0])
 (.seq (.ak [Qm 34 3,Qm 2 34] [2] [0])
 (.ret)))))
def cD.m:Fn:={np:=1,body:=cD.b,res:=[.tmp 2]}
def cD.k(M:Nat→Option Body):Prop:=M 139=some (.code cD.m)∧cm.k M
def fY.b:C:= .seq (.ak [Q 2 (.mv (.k (.str ⟨#[]⟩)))] [0] [0])
 (.seq (.gm [Qm 7 0,Q 8 (.jG (.t 7)),Qf 9 0 8,Ql 10 9,Qm 11 0,Q 12 (.jG (.t 11)),Qf 13 1 12,Ql 14 13,Q 15 (.call 206 [.t 10,.t 14] [] []),Qm 6 15,Qx 16 0 6,Qx 17 1 6,Qx 18 2 6,
   Qm 3 16,Qm 4 17,Qm 5 18] [[],[0],[0,1],[0,1,2],[],[4],[4,5],[4,5,6],lr 8,lr 9,lr 10,lr 10,lr 10,lr 11,lr 12++[13],lr 15] [0,3,4,5] [0])
 (.seq (.seq (.ak [Qm 19 0,Q 20 (.jG (.t 19)),Qf 21 2 20,Ql 22 21,Qm 23 22,Qg 24 (.mv (.t 5)) 23 false,Qg 25 (.not (.t 24)) 23 false,Q 26 (.pick (.t 23) (kB true) (.t 25))] [0,3,4,26] [0])
 (.cond (.t 26) (.seq (.ak [Qm 27 0,Q 28 (.jG (.t 27)),Qf 29 2 28,Qn (.store 1 (.t 29) (kB true))] [] [0])
 (.seq (.ak [Q 2 (.mv (.k (.str ⟨#[]⟩)))] [2] [0])
 (.ret))) (.skip)))
 (.seq (.ak [Qm 30 0,Qm 31 4,Q 32 (.jG (.t 30)),Qf 33 1 32,Qs 1 33 31] [3] [0])
 (.seq (.ak [Qm 34 3,Qm 2 34] [2] [0])
 (.ret)))))
def fY.m:Fn:={np:=1,body:=fY.b,res:=[.tmp 2]}
def fY.k(M:Nat→Option Body):Prop:=M 140=some (.code fY.m)∧dF.k M
def dR.l0:C:= .seq (.seq (.ak [Qm 11 7,Qm 12 5,Q 13 (.bin .lss (.t 11) (.t 12)),Qm 14 13,Qg 15 (.mv (.t 7)) 14 true,Qg 16 (.mv (.t 1)) 14 true,Qg 17 (.bin .leq (.t 15) (.t 16)) 14 true,
    Q 18 (.pick (.t 14) (.t 17) (kB false)),Qm 19 18,Qg 20 (.mv (.t 0)) 19 true,Qg 21 (.jG (.t 20)) 19 true,Qg 22 (.bH 2 (.t 21)) 19 true,
    Qg 23 (.load false 1 (.t 22)) 19 true,Qg 24 (.not (.t 23)) 19 true,Q 25 (.pick (.t 19) (.t 24) (kB false))] [0,1,5,6,7,25] [0,10,32])
 (.cond (.t 25) (.skip) (.exit 0)))
 (.seq (.block 1 (.ak [Qm 28 6,Qm 29 0,Q 30 (.call 139 [.t 29] [0] []),Q 31 (.bZ 1 1 [.int .i64 0] [(0,.t 30)]),Q 32 (.app 1 8 (.t 28) (.t 31)),Qm 6 32] [0,1,5,6,7] [0,10,32]))
 (.ak [Qm 26 7,Q 27 (.bin .add (.t 26) (kI 1)),Qm 7 27] [0,1,5,6,7] [0,10,32]))
def dR.b:C:= .seq (.ak [Q 4 (.nil 1)] [0,1] [0])
 (.seq (.ak [Qm 8 0,Q 9 (.call 139 [.t 8] [0] []),Qm 5 9] [0,1,5] [0])
 (.seq (.ak [Q 10 (.bZ 1 0 [.int .i64 0] []),Qm 6 10] [0,1,5,6] [0,10,32])
 (.seq (.seq (.ak [Qi 7 0] [0,1,5,6,7] [0,10,32])
 (.block 0 (.loop dR.l0)))
 (.seq (.ak [Qm 33 6,Qm 4 33] [4] [0,4,10,32])
 (.ret)))))
def dR.m:Fn:={np:=2,body:=dR.b,res:=[.tmp 4]}
def dR.k(M:Nat→Option Body):Prop:=M 142=some (.code dR.m)∧cD.k M
def df.l0:C:= .seq (.seq (.ak [Qm 21 9,Q 22 (.bin .lss (.t 21) (kI 3))] [4,7,8,9,22] [4,8,14,40])
 (.cond (.t 22) (.skip) (.exit 0)))
 (.seq (.block 1 (.seq (.ak [Qm 25 7,Q 26 (.call 139 [.t 25] [0] []),Q 27 (.build [.int .i64 0,.int .i64 0,.int .i64 0] [(0,1,.t 26)]),Q 10 (.alloc [.int .i64 0,.int .i64 0,.int .i64 0]),Qs 3 10 27] [4,7,8,9,10] [4,8,10,14,40])
 (.seq (.ak [Qm 28 7,Q 29 (.call 139 [.t 28] [0] []),Qf 30 1 10,Qf 31 0 30,Qs 1 31 29] [4,7,8,9,10] [4,8,10,14,40])
 (.seq (.ak [Qm 32 7,Q 33 (.call 139 [.t 32] [0] []),Qf 34 1 10,Qf 35 1 34,Qs 1 35 33] [4,7,8,9,10] [4,8,10,14,40])
 (.ak [Qf 36 2 8,Ql 37 36,QL 38 3 10,Q 39 (.bZ 3 1 [.int .i64 0,.int .i64 0,.int .i64 0] [(0,.t 38)]),Q 40 (.app 3 24 (.t 37) (.t 39)),Qf 41 2 8,Qs 1 41 40] [4,7,8,9] [4,8,14,40])))))
 (.ak [Qm 23 9,Q 24 (.bin .add (.t 23) (kI 1)),Qm 9 24] [4,7,8,9] [4,8,14,40]))
def df.b:C:= .seq (.ak [Q 4 (.alloc [.int .i64 0,.int .i64 0,.aN 3,.str ⟨#[]⟩]),Qi 5 0,Qb 6 false] [0,1,4] [4,40])
 (.seq (.ak [Qm 11 0,Qm 12 1,Q 13 (.build [.str ⟨#[]⟩,.int .i64 0,.bool false] [(0,1,.t 11),(1,1,.t 12)]),Qv 14 13,Qm 7 14] [4,7] [4,14,40])
 (.seq (.ak [Qm 15 7,Q 16 (.call 139 [.t 15] [0] []),Q 17 (.build [.int .i64 0,.int .i64 0,.aN 3,.str ⟨#[]⟩] [(0,1,.t 16)]),
   Q 8 (.alloc [.int .i64 0,.int .i64 0,.aN 3,.str ⟨#[]⟩]),Qs 4 8 17] [4,7,8] [4,8,14,40])
 (.seq (.ak [Qm 18 7,Q 19 (.call 139 [.t 18] [0] []),Qf 20 1 8,Qs 1 20 19] [4,7,8] [4,8,14,40])
 (.seq (.seq (.ak [Qi 9 0] [4,7,8,9] [4,8,14,40])
 (.block 0 (.loop df.l0)))
 (.seq (.ak [Qm 42 7,Q 43 (.call 140 [.t 42] [0] []),Qf 44 3 8,Qs 1 44 43] [4,7,8] [4,8,14,40])
 (.seq (.seq (.ak [Qm 45 7,Q 46 (.jG (.t 45)),Qf 47 2 46,Ql 48 47,Qm 49 48,Qg 50 (.load true 4 (.t 8)) 49 false,Qg 51 (.call 187 [.t 50] [] []) 49 false,Qg 52 (.not (.t 51)) 49 false,
   Q 53 (.pick (.t 49) (kB true) (.t 52))] [4,7,8,53] [4,8,14,40])
 (.cond (.t 53) (.seq (.ak [Q 54 (.build [.int .i64 0,.int .i64 0,.aN 3,.str ⟨#[]⟩] []),Qs 4 4 54,Qi 5 0,Qb 6 false] [4,5,6] [4,40])
 (.ret)) (.skip)))
 (.seq (.gm [QL 55 4 8,Qm 56 7,Q 57 (.jG (.t 56)),Qf 58 1 57,Ql 59 58,Qs 4 4 55,Qm 5 59,Qb 6 true] [[],[],[1],[1,2],[1,2,3],[0],lr 6,lr 7] [4,5,6] [4,40])
 (.ret))))))))
def df.m:Fn:={np:=2,body:=df.b,res:=[.cell 4 true 4,.tmp 5,.tmp 6]}
def df.k(M:Nat→Option Body):Prop:=M 141=some (.code df.m)∧cD.k M∧fY.k M∧dI.k M
def bO.l0:C:= .seq (.seq (.ak [Qm 37 10,Qm 38 9,Q 39 (.bin .lss (.t 37) (.t 38)),Qm 40 39,Qg 41 (.mv (.t 10)) 40 true,Qg 42 (.bin .leq (.t 41) (kI 10)) 40 true,Q 43 (.pick (.t 40) (.t 42) (kB false)),
    Qm 44 43,Qg 45 (.mv (.t 7)) 44 true,Qg 46 (.jG (.t 45)) 44 true,Qg 47 (.bH 2 (.t 46)) 44 true,Qg 48 (.load false 1 (.t 47)) 44 true,Qg 49 (.not (.t 48)) 44 true,
    Q 50 (.pick (.t 44) (.t 49) (kB false))] [0,4,7,8,9,10,50] [4,8,17,70,17700])
 (.cond (.t 50) (.skip) (.exit 0)))
 (.seq (.block 1 (.seq (.ak [Qm 54 0,Qm 55 7,Q 56 (.jG (.t 55)),Qf 57 1 56,Ql 58 57,Q 59 (.call 141 [.t 54,.t 58] [] []),Qm 53 59,Qx 60 0 53,Qx 61 1 53,Qx 62 2 53,
   Q 11 (.alloc [.int .i64 0,.int .i64 0,.aN 3,.str ⟨#[]⟩]),Qs 4 11 60,Qm 12 61,Qm 13 62] [0,4,7,8,9,10,11,12,13] [4,8,11,17,70,17700])
 (.seq (.seq (.ak [Qm 63 13,Q 64 (.not (.t 63))] [0,4,7,8,9,10,11,12,64] [4,8,11,17,70,17700])
 (.cond (.t 64) (.seq (.ak [Q 65 (.build [.int .i64 0,.str ⟨#[]⟩,.int .i64 0,.int .i64 0,.int .i64 0,.aN 4,.aN 1] []),Qs 7 4 65,Qi 5 0,Qb 6 false] [4,5,6] [4,70,17700])
 (.ret)) (.skip)))
 (.seq (.ak [Qf 66 5 8,Ql 67 66,QL 68 4 11,Q 69 (.bZ 4 1 [.int .i64 0,.int .i64 0,.aN 3,.str ⟨#[]⟩] [(0,.t 68)]),Q 70 (.app 4 56 (.t 67) (.t 69)),Qf 71 5 8,Qs 1 71 70] [0,4,7,8,9,10,12] [4,8,17,70,17700])
 (.ak [Qm 72 7,Qm 73 12,Q 74 (.jG (.t 72)),Qf 75 1 74,Qs 1 75 73] [0,4,7,8,9,10] [4,8,17,70,17700])))))
 (.ak [Qm 51 10,Q 52 (.bin .add (.t 51) (kI 1)),Qm 10 52] [0,4,7,8,9,10] [4,8,17,70,17700]))
def bO.b:C:= .seq (.ak [Q 4 (.alloc [.int .i64 0,.str ⟨#[]⟩,.int .i64 0,.int .i64 0,.int .i64 0,.aN 4,.aN 1]),Qi 5 0,Qb 6 false] [0,1,4] [4,70,17700])
 (.seq (.ak [Qm 14 0,Qm 15 1,Q 16 (.build [.str ⟨#[]⟩,.int .i64 0,.bool false] [(0,1,.t 14),(1,1,.t 15)]),Qv 17 16,Qm 7 17] [0,4,7] [4,17,70,17700])
 (.seq (.ak [Qm 18 7,Q 19 (.call 139 [.t 18] [0] []),Q 20 (.build [.int .i64 0,.str ⟨#[]⟩,.int .i64 0,.int .i64 0,.int .i64 0,.aN 4,.aN 1] [(0,1,.t 19)]),
   Q 8 (.alloc [.int .i64 0,.str ⟨#[]⟩,.int .i64 0,.int .i64 0,.int .i64 0,.aN 4,.aN 1]),Qs 7 8 20] [0,4,7,8] [4,8,17,70,17700])
 (.seq (.ak [Qm 21 7,Q 22 (.call 140 [.t 21] [0] []),Qf 23 1 8,Qs 1 23 22] [0,4,7,8] [4,8,17,70,17700])
 (.seq (.ak [Qm 24 7,Q 25 (.call 139 [.t 24] [0] []),Qf 26 2 8,Qf 27 0 26,Qs 1 27 25] [0,4,7,8] [4,8,17,70,17700])
 (.seq (.ak [Qm 28 7,Q 29 (.call 139 [.t 28] [0] []),Qf 30 2 8,Qf 31 1 30,Qs 1 31 29] [0,4,7,8] [4,8,17,70,17700])
 (.seq (.ak [Qm 32 7,Q 33 (.call 139 [.t 32] [0] []),Qf 34 4 8,Qs 1 34 33] [0,4,7,8] [4,8,17,70,17700])
 (.seq (.ak [Qm 35 7,Q 36 (.call 139 [.t 35] [0] []),Qm 9 36] [0,4,7,8,9] [4,8,17,70,17700])
 (.seq (.seq (.ak [Qi 10 0] [0,4,7,8,9,10] [4,8,17,70,17700])
 (.block 0 (.loop bO.l0)))
 (.seq (.ak [Qm 76 7,Q 77 (.call 142 [.t 76,kI 40] [0] [(0,17700)]),Qf 78 6 8,Qs 1 78 77] [4,7,8] [4,8,17,70,17700])
 (.seq (.seq (.ak [Qm 79 7,Q 80 (.jG (.t 79)),Qf 81 2 80,Ql 82 81,Qm 83 82,Qg 84 (.load true 7 (.t 8)) 83 false,Qg 85 (.call 88 [.t 84] [] []) 83 false,Qg 86 (.not (.t 85)) 83 false,
   Q 87 (.pick (.t 83) (kB true) (.t 86))] [4,7,8,87] [4,8,17,70,17700])
 (.cond (.t 87) (.seq (.ak [Q 88 (.build [.int .i64 0,.str ⟨#[]⟩,.int .i64 0,.int .i64 0,.int .i64 0,.aN 4,.aN 1] []),Qs 7 4 88,Qi 5 0,Qb 6 false] [4,5,6] [4,70,17700])
 (.ret)) (.skip)))
 (.seq (.gm [QL 89 7 8,Qm 90 7,Q 91 (.jG (.t 90)),Qf 92 1 91,Ql 93 92,Qs 7 4 89,Qm 5 93,Qb 6 true] [[],[],[1],[1,2],[1,2,3],[0],lr 6,lr 7] [4,5,6] [4,70,17700])
 (.ret))))))))))))
def bO.m:Fn:={np:=2,body:=bO.b,res:=[.cell 4 true 7,.tmp 5,.tmp 6]}
def bO.k(M:Nat→Option Body):Prop:=M 52=some (.code bO.m)∧bB.k M∧cD.k M∧fY.k M∧df.k M∧dR.k M
def b9.l0:C:= .seq (.seq (.ak [Qm 24 5,Qf 25 2 1,Ql 26 25,Q 27 (.len (.t 26)),Q 28 (.bin .lss (.t 24) (.t 27))] [1,4,5,28] [1])
 (.cond (.t 28) (.skip) (.exit 0)))
 (.seq (.block 1 (.seq (.ak [Qf 32 2 1,Ql 33 32,Qm 34 5,Qa 35 7 33 34,QL 36 7 35,Q 37 (.call 34 [.t 36] [] []),Qm 31 37,Qx 38 0 31,Qx 39 1 31,Qm 6 38,Qm 7 39] [1,4,5,6] [1])
 (.ak [Qm 40 4,Qm 41 6,Q 42 (.bin .add (.t 40) (.t 41)),Qm 4 42] [1,4,5] [1])))
 (.ak [Qm 29 5,Q 30 (.bin .add (.t 29) (kI 1)),Qm 5 30] [1,4,5] [1]))
def b9.l1:C:= .seq (.seq (.ak [Qm 49 8,Qf 50 3 1,Ql 51 50,Q 52 (.len (.t 51)),Q 53 (.bin .lss (.t 49) (.t 52))] [1,4,8,53] [1])
 (.cond (.t 53) (.skip) (.exit 2)))
 (.seq (.block 3 (.ak [Qm 56 4,Qf 57 3 1,Ql 58 57,Qm 59 8,Qa 60 1 58 59,Ql 61 60,Q 62 (.call 99 [.t 61] [] []),Q 63 (.bin .add (.t 56) (.t 62)),Qm 4 63] [1,4,8] [1]))
 (.ak [Qm 54 8,Q 55 (.bin .add (.t 54) (kI 1)),Qm 8 55] [1,4,8] [1]))
def b9.b:C:= .seq (.ak [Qv 1 0,Q 2 (.mv (.k (.str ⟨#[]⟩))),Qb 3 false] [1] [1])
 (.seq (.seq (.ak [QL 9 4 1,Q 10 (.call 149 [.t 9] [] []),Q 11 (.not (.t 10))] [1,11] [1])
 (.cond (.t 11) (.seq (.ak [Q 2 (.mv (.k (.str ⟨#[]⟩))),Qb 3 false] [2,3] [])
 (.ret)) (.skip)))
 (.seq (.gm [Qf 12 0 1,Ql 13 12,Q 14 (.call 99 [.t 13] [] []),Qf 15 1 1,Ql 16 15,Q 17 (.call 99 [.t 16] [] []),Q 18 (.bin .add (.t 14) (.t 17)),Qf 19 2 1,Ql 20 19,Q 21 (.len (.t 20)),
   Q 22 (.call 99 [.t 21] [] []),Q 23 (.bin .add (.t 18) (.t 22)),Qm 4 23] [[],[0],[0,1],[],[3],lr 5,lr 6,[],[7],[7,8],lr 6++[7,8,9],lr 11,lr 12] [1,4] [1])
 (.seq (.seq (.ak [Qi 5 0] [1,4,5] [1])
 (.block 0 (.loop b9.l0)))
 (.seq (.ak [Qm 43 4,Qf 44 3 1,Ql 45 44,Q 46 (.len (.t 45)),Q 47 (.call 99 [.t 46] [] []),Q 48 (.bin .add (.t 43) (.t 47)),Qm 4 48] [1,4] [1])
 (.seq (.seq (.ak [Qi 8 0] [1,4,8] [1])
 (.block 2 (.loop b9.l1)))
 (.seq (.ak [Qm 64 4,Q 65 (.call 100 [.t 64] [] []),Qx 66 0 65,Qx 67 1 65,Qm 2 66,Qm 3 67] [2,3] [])
 (.ret)))))))
def b9.m:Fn:={np:=1,body:=b9.b,res:=[.tmp 2,.tmp 3]}
def b9.k(M:Nat→Option Body):Prop:=M 60=some (.code b9.m)∧c_.k M∧bL.k M∧ig.k M∧aI.k M
def bh.l0:C:= .seq (.seq (.ak [Qm 33 9,Qm 34 8,Q 35 (.bin .lss (.t 33) (.t 34)),Qm 36 35,Qg 37 (.mv (.t 9)) 36 true,Qg 38 (.bin .leq (.t 37) (kI 5)) 36 true,Q 39 (.pick (.t 36) (.t 38) (kB false)),
    Qm 40 39,Qg 41 (.mv (.t 6)) 40 true,Qg 42 (.jG (.t 41)) 40 true,Qg 43 (.bH 2 (.t 42)) 40 true,Qg 44 (.load false 1 (.t 43)) 40 true,Qg 45 (.not (.t 44)) 40 true,
    Q 46 (.pick (.t 40) (.t 45) (kB false))] [0,2,4,6,7,8,9,46] [2,7,24,66,17300])
 (.cond (.t 46) (.skip) (.exit 0)))
 (.seq (.block 1 (.seq (.ak [Qm 50 4,Qm 51 6,Q 52 (.jG (.t 51)),Qf 53 1 52,Ql 54 53,Q 55 (.call 52 [.t 50,.t 54] [] []),Qm 49 55,Qx 56 0 49,Qx 57 1 49,Qx 58 2 49,
   Q 10 (.alloc [.int .i64 0,.str ⟨#[]⟩,.int .i64 0,.int .i64 0,.int .i64 0,.aN 4,.aN 1]),Qs 7 10 56,Qm 11 57,Qm 12 58] [0,2,4,6,7,8,9,10,11,12] [2,7,10,24,66,17300])
 (.seq (.seq (.ak [Qm 59 12,Q 60 (.not (.t 59))] [0,2,4,6,7,8,9,10,11,60] [2,7,10,24,66,17300])
 (.cond (.t 60) (.seq (.ak [Q 61 (.build [.int .i64 0,.int .i64 0,.aN 7,.aN 1] []),Qs 4 2 61,Qb 3 false] [2,3] [2,66,17300])
 (.ret)) (.skip)))
 (.seq (.ak [Qf 62 2 7,Ql 63 62,QL 64 7 10,Q 65 (.bZ 7 1 [.int .i64 0,.str ⟨#[]⟩,.int .i64 0,.int .i64 0,.int .i64 0,.aN 4,.aN 1] [(0,.t 64)]),
   Q 66 (.app 7 96 (.t 63) (.t 65)),Qf 67 2 7,Qs 1 67 66] [0,2,4,6,7,8,9,11] [2,7,24,66,17300])
 (.ak [Qm 68 6,Qm 69 11,Q 70 (.jG (.t 68)),Qf 71 1 70,Qs 1 71 69] [0,2,4,6,7,8,9] [2,7,24,66,17300])))))
 (.ak [Qm 47 9,Q 48 (.bin .add (.t 47) (kI 1)),Qm 9 48] [0,2,4,6,7,8,9] [2,7,24,66,17300]))
def bh.b:C:= .seq (.ak [Q 2 (.alloc [.int .i64 0,.int .i64 0,.aN 7,.aN 1]),Qb 3 false] [0,2] [2,66,17300])
 (.seq (.ak [Qm 16 0,Q 17 (.call 167 [.t 16] [] []),Qm 15 17,Qx 18 0 15,Qx 19 1 15,Qm 4 18,Qm 5 19] [0,2,4,5] [2,66,17300])
 (.seq (.ak [Qm 20 4,Qm 21 5,Q 22 (.not (.t 21)),Q 23 (.build [.str ⟨#[]⟩,.int .i64 0,.bool false] [(0,1,.t 20),(2,1,.t 22)]),Qv 24 23,Qm 6 24] [0,2,4,6] [2,24,66,17300])
 (.seq (.ak [Qm 25 6,Q 26 (.call 139 [.t 25] [0] []),Q 27 (.build [.int .i64 0,.int .i64 0,.aN 7,.aN 1] [(0,1,.t 26)]),Q 7 (.alloc [.int .i64 0,.int .i64 0,.aN 7,.aN 1]),
   Qs 4 7 27] [0,2,4,6,7] [2,7,24,66,17300])
 (.seq (.ak [Qm 28 6,Q 29 (.call 139 [.t 28] [0] []),Qf 30 1 7,Qs 1 30 29] [0,2,4,6,7] [2,7,24,66,17300])
 (.seq (.ak [Qm 31 6,Q 32 (.call 139 [.t 31] [0] []),Qm 8 32] [0,2,4,6,7,8] [2,7,24,66,17300])
 (.seq (.seq (.ak [Qi 9 0] [0,2,4,6,7,8,9] [2,7,24,66,17300])
 (.block 0 (.loop bh.l0)))
 (.seq (.ak [Qm 72 6,Q 73 (.call 142 [.t 72,kI 20] [0] [(0,17300)]),Qf 74 3 7,Qs 1 74 73] [0,2,6,7] [2,7,24,66,17300])
 (.seq (.ak [QL 76 4 7,Q 77 (.call 60 [.t 76] [] []),Qm 75 77,Qx 78 0 75,Qx 79 1 75,Qm 13 78,Qm 14 79] [0,2,6,7,13,14] [2,7,24,66,17300])
 (.seq (.seq (.ak [Qm 80 6,Q 81 (.jG (.t 80)),Qf 82 2 81,Ql 83 82,Qm 84 83,Qg 85 (.mv (.t 14)) 84 false,Qg 86 (.not (.t 85)) 84 false,Q 87 (.pick (.t 84) (kB true) (.t 86)),Qm 88 87,
   Qg 89 (.mv (.t 13)) 88 false,Qg 90 (.mv (.t 0)) 88 false,Qg 91 (.bin .neq (.t 89) (.t 90)) 88 false,Q 92 (.pick (.t 88) (kB true) (.t 91))] [2,7,92] [2,7,66,17300])
 (.cond (.t 92) (.seq (.ak [Q 93 (.build [.int .i64 0,.int .i64 0,.aN 7,.aN 1] []),Qs 4 2 93,Qb 3 false] [2,3] [2,66,17300])
 (.ret)) (.skip)))
 (.seq (.ak [QL 94 4 7,Qs 4 2 94,Qb 3 true] [2,3] [2,66,17300])
 (.ret)))))))))))
def bh.m:Fn:={np:=1,body:=bh.b,res:=[.cell 2 true 4,.tmp 3]}
def bh.k(M:Nat→Option Body):Prop:=M 75=some (.code bh.m)∧bO.k M∧b9.k M∧cD.k M∧dR.k M∧eI.k M
def bF.l0:C:= .seq (.ak [Q 28 (.bin .lss (.t 27) (.t 26))] [2,4,5,6,7,26,27,28] [2,7,17,35,13900])
 (.seq (.cond (.t 28) (.skip) (.exit 0))
 (.seq (.block 1 (.seq (.ak [Qm 29 6,Q 30 (.call 143 [.t 29] [0] []),Q 9 (.alloc [.int .i64 0,.str ⟨#[]⟩,.int .i64 0,.int .i64 0,.int .i64 0,.aN 4,.aN 1]),Qs 7 9 30] [2,4,5,6,7,9,26,27] [2,7,9,17,35,13900])
 (.ak [Qf 31 2 7,Ql 32 31,QL 33 7 9,Q 34 (.bZ 7 1 [.int .i64 0,.str ⟨#[]⟩,.int .i64 0,.int .i64 0,.int .i64 0,.aN 4,.aN 1] [(0,.t 33)]),Q 35 (.app 7 96 (.t 32) (.t 34)),
   Qf 36 2 7,Qs 1 36 35] [2,4,5,6,7,26,27] [2,7,17,35,13900])))
 (.ak [Q 37 (.bin .add (.t 27) (kI 1)),Qm 27 37] [2,4,5,6,7,26,27] [2,7,17,35,13900])))
def bF.b:C:= .seq (.ak [Q 2 (.alloc [.int .i64 0,.int .i64 0,.aN 7,.aN 1]),Qb 3 false] [0,2] [2,35,13900])
 (.seq (.ak [Qm 11 0,Q 12 (.call 168 [.t 11] [] []),Qm 10 12,Qx 13 0 10,Qx 14 1 10,Qm 4 13,Qm 5 14] [2,4,5] [2,35,13900])
 (.seq (.ak [Qm 15 4,Q 16 (.build [.str ⟨#[]⟩,.int .i64 0,.bool false] [(0,1,.t 15)]),Qv 17 16,Qm 6 17] [2,4,5,6] [2,17,35,13900])
 (.seq (.ak [Qm 18 6,Q 19 (.call 152 [.t 18] [0] []),Q 20 (.build [.int .i64 0,.int .i64 0,.aN 7,.aN 1] [(0,1,.t 19)]),Q 7 (.alloc [.int .i64 0,.int .i64 0,.aN 7,.aN 1]),
   Qs 4 7 20] [2,4,5,6,7] [2,7,17,35,13900])
 (.seq (.ak [Qm 21 6,Q 22 (.call 152 [.t 21] [0] []),Qf 23 1 7,Qs 1 23 22] [2,4,5,6,7] [2,7,17,35,13900])
 (.seq (.ak [Qm 24 6,Q 25 (.call 169 [.t 24,kI 5] [0] []),Qm 8 25] [2,4,5,6,7,8] [2,7,17,35,13900])
 (.seq (.seq (.ak [Qm 26 8,Qi 27 0] [2,4,5,6,7,26,27] [2,7,17,35,13900])
 (.block 0 (.loop bF.l0)))
 (.seq (.ak [Qm 38 6,Q 39 (.call 170 [.t 38,kI 20] [0] [(0,13900)]),Qf 40 3 7,Qs 1 40 39] [2,4,5,6,7] [2,7,17,35,13900])
 (.seq (.seq (.ak [Qm 41 5,Q 42 (.not (.t 41)),Qm 43 42,Qg 44 (.mv (.t 6)) 43 false,Qg 45 (.jG (.t 44)) 43 false,Qg 46 (.bH 2 (.t 45)) 43 false,Qg 47 (.load false 1 (.t 46)) 43 false,
   Q 48 (.pick (.t 43) (kB true) (.t 47)),Qm 49 48,Qg 50 (.mv (.t 6)) 49 false,Qg 51 (.jG (.t 50)) 49 false,Qg 52 (.bH 1 (.t 51)) 49 false,
   Qg 53 (.load false 1 (.t 52)) 49 false,Qg 54 (.mv (.t 4)) 49 false,Qg 55 (.lC (.t 54)) 49 false,Qg 56 (.bin .neq (.t 53) (.t 55)) 49 false,
   Q 57 (.pick (.t 49) (kB true) (.t 56)),Qm 58 57,Qg 59 (.load true 4 (.t 7)) 58 false,Qg 60 (.call 150 [.t 59] [] []) 58 false,Qg 61 (.not (.t 60)) 58 false,
   Q 62 (.pick (.t 58) (kB true) (.t 61))] [2,7,62] [2,7,35,13900])
 (.cond (.t 62) (.seq (.ak [Q 63 (.build [.int .i64 0,.int .i64 0,.aN 7,.aN 1] []),Qs 4 2 63,Qb 3 false] [2,3] [2,35,13900])
 (.ret)) (.skip)))
 (.seq (.ak [QL 64 4 7,Qs 4 2 64,Qb 3 true] [2,3] [2,35,13900])
 (.ret))))))))))
def bF.m:Fn:={np:=1,body:=bF.b,res:=[.cell 2 true 4,.tmp 3]}
def bF.k(M:Nat→Option Body):Prop:=M 76=some (.code bF.m)∧dn.k M∧aJ.k M∧b8.k M∧fC.k M∧dK.k M∧dm.k M
def eO.b:C:= .seq (.ak [Qv 1 0,Qb 2 false] [1] [1])
 (.seq (.seq (.ak [Qf 5 0 1,Ql 6 5] [1,6] [1])
 (.block 0 (.seq (.seq (.ak [Q 8 (.bin .eql (.t 6) (kI 1)),Qm 7 8] [1,6,7] [1])
 (.cond (.t 7) (.skip) (.ak [Q 9 (.bin .eql (.t 6) (kI 2)),Qm 7 9] [1,6,7] [1])))
 (.cond (.t 7) (.seq (.ak [Qf 10 4 1,Ql 11 10,Q 12 (.call 90 [.t 11] [] []),Qm 2 12] [2] [])
 (.ret)) (.seq (.ak [Q 14 (.bin .eql (.t 6) (kI 4)),Qm 13 14] [1,6,13] [1])
 (.cond (.t 13) (.seq (.ak [Qf 15 4 1,Ql 16 15,Q 17 (.lC (.t 16)),Q 18 (.bin .leq (.t 17) (kI 60)),Qm 2 18] [2] [])
 (.ret)) (.seq (.ak [Q 20 (.bin .eql (.t 6) (kI 7)),Qm 19 20] [1,19] [1])
 (.cond (.t 19) (.seq (.ak [Qf 22 4 1,Ql 23 22,Q 24 (.call 75 [.t 23] [] []),Qm 21 24,Qx 25 0 21,Qx 26 1 21,Q 3 (.alloc [.int .i64 0,.int .i64 0,.aN 7,.aN 1]),Qs 4 3 25,Qm 4 26] [4] [])
 (.seq (.ak [Qm 27 4,Qm 2 27] [2] [])
 (.ret))) (.skip)))))))))
 (.seq (.ak [Qf 28 4 1,Ql 29 28,Q 30 (.bin .eql (.t 29) (.k (.str ⟨#[]⟩))),Qm 2 30] [2] [])
 (.ret)))
def eO.m:Fn:={np:=1,body:=eO.b,res:=[.tmp 2]}
def eO.k(M:Nat→Option Body):Prop:=M 146=some (.code eO.m)∧bh.k M∧dH.k M
def aX.b:C:= .seq (.ak [Qv 1 0,Qb 2 false] [1] [1])
 (.seq (.seq (.ak [Qf 6 0 1,Ql 7 6,Q 8 (.call 98 [.t 7,kI 1,kI 7] [] []),Q 9 (.not (.t 8))] [1,9] [1])
 (.cond (.t 9) (.seq (.ak [Qb 2 false] [2] [])
 (.ret)) (.skip)))
 (.seq (.ak [Qf 10 0 1,Ql 11 10,Q 12 (.bin .eql (.t 11) (kI 7)),Qm 3 12] [1,3] [1])
 (.seq (.ak [Qf 13 0 1,Ql 14 13,Q 15 (.bin .eql (.t 14) (kI 4)),Qm 16 15,Qg 17 (.bH 0 (.t 1)) 16 false,Qg 18 (.load false 1 (.t 17)) 16 false,Qg 19 (.bin .eql (.t 18) (kI 5)) 16 false,
   Q 20 (.pick (.t 16) (kB true) (.t 19)),Qm 21 20,Qg 22 (.bH 0 (.t 1)) 21 false,Qg 23 (.load false 1 (.t 22)) 21 false,Qg 24 (.bin .eql (.t 23) (kI 6)) 21 false,
   Q 25 (.pick (.t 21) (kB true) (.t 24)),Qm 4 25] [1,3,4] [1])
 (.seq (.ak [Qf 26 0 1,Ql 27 26,Q 28 (.bin .eql (.t 27) (kI 4)),Qm 29 28,Qg 30 (.bH 0 (.t 1)) 29 false,Qg 31 (.load false 1 (.t 30)) 29 false,Qg 32 (.bin .eql (.t 31) (kI 5)) 29 false,
   Q 33 (.pick (.t 29) (kB true) (.t 32)),Qm 5 33] [1,3,4,5] [1])
 (.seq (.seq (.ak [Qm 34 3,Qm 35 34,Qg 36 (.bH 1 (.t 1)) 35 true,Qg 37 (.load false 1 (.t 36)) 35 true,Qg 38 (.bin .neq (.t 37) (kI 0)) 35 true,Q 39 (.pick (.t 35) (.t 38) (kB false)),
   Qm 40 39,Qg 41 (.mv (.t 3)) 40 false,Qg 42 (.not (.t 41)) 40 false,Qg 43 (.mv (.t 42)) 40 false,Qg 44 (.bH 1 (.t 1)) 43 true,Qg 45 (.load false 1 (.t 44)) 43 true,
   Qg 46 (.call 98 [.t 45,kI 1,kI 9999] [] []) 43 true,Qg 47 (.not (.t 46)) 43 true,Qg 48 (.pick (.t 43) (.t 47) (kB false)) 40 false,Q 49 (.pick (.t 40) (kB true) (.t 48)),
   Qm 50 49,Qg 51 (.mv (.t 4)) 50 false,Qg 52 (.mv (.t 51)) 50 false,Qg 53 (.bH 2 (.t 1)) 52 true,Qg 54 (.load false 1 (.t 53)) 52 true,
   Qg 55 (.call 98 [.t 54,kI 1,kI 9999] [] []) 52 true,Qg 56 (.not (.t 55)) 52 true,Qg 57 (.pick (.t 52) (.t 56) (kB false)) 50 false,Q 58 (.pick (.t 50) (kB true) (.t 57)),
   Qm 59 58,Qg 60 (.mv (.t 4)) 59 false,Qg 61 (.not (.t 60)) 59 false,Qg 62 (.mv (.t 61)) 59 false,Qg 63 (.bH 2 (.t 1)) 62 true,Qg 64 (.load false 1 (.t 63)) 62 true,
   Qg 65 (.bin .neq (.t 64) (kI 0)) 62 true,Qg 66 (.pick (.t 62) (.t 65) (kB false)) 59 false,Q 67 (.pick (.t 59) (kB true) (.t 66))] [1,5,67] [1])
 (.cond (.t 67) (.seq (.ak [Qb 2 false] [2] [])
 (.ret)) (.skip)))
 (.seq (.seq (.ak [Qm 68 5,Qm 69 68,Qg 70 (.bH 3 (.t 1)) 69 true,Qg 71 (.load false 1 (.t 70)) 69 true,Qg 72 (.call 98 [.t 71,kI 0,kI 7] [] []) 69 true,Qg 73 (.not (.t 72)) 69 true,
   Q 74 (.pick (.t 69) (.t 73) (kB false)),Qm 75 74,Qg 76 (.mv (.t 5)) 75 false,Qg 77 (.not (.t 76)) 75 false,Qg 78 (.mv (.t 77)) 75 false,Qg 79 (.bH 3 (.t 1)) 78 true,
   Qg 80 (.load false 1 (.t 79)) 78 true,Qg 81 (.bin .neq (.t 80) (kI 0)) 78 true,Qg 82 (.pick (.t 78) (.t 81) (kB false)) 75 false,Q 83 (.pick (.t 75) (kB true) (.t 82))] [1,83] [1])
 (.cond (.t 83) (.seq (.ak [Qb 2 false] [2] [])
 (.ret)) (.skip)))
 (.seq (.ak [QL 84 5 1,Q 85 (.call 146 [.t 84] [] []),Qm 2 85] [2] [])
 (.ret))))))))
def aX.m:Fn:={np:=1,body:=aX.b,res:=[.tmp 2]}
def aX.k(M:Nat→Option Body):Prop:=M 58=some (.code aX.m)∧bS.k M∧eO.k M
def aP.b:C:= .seq (.ak [Qv 1 0,Qb 2 false] [1] [1])
 (.seq (.ak [Qf 7 0 1,Ql 8 7,Qf 9 1 1,Ql 10 9,Q 11 (.build [.int .i64 0,.int .i64 0,.int .i64 0,.int .i64 0,.str ⟨#[]⟩] [(0,1,.t 8),(1,1,.t 10)]),
   Q 3 (.alloc [.int .i64 0,.int .i64 0,.int .i64 0,.int .i64 0,.str ⟨#[]⟩]),Qs 5 3 11] [1,3] [1,3])
 (.seq (.ak [Qf 12 1 1,Ql 13 12,Q 14 (.call 147 [.t 13] [] []),Qm 4 14] [1,3,4] [1,3])
 (.seq (.seq (.ak [Qf 15 0 1,Ql 16 15] [1,3,4,16] [1,3])
 (.block 0 (.seq (.seq (.ak [Q 18 (.bin .eql (.t 16) (kI 1)),Qm 17 18] [1,3,4,16,17] [1,3])
 (.cond (.t 17) (.skip) (.ak [Q 19 (.bin .eql (.t 16) (kI 2)),Qm 17 19] [1,3,4,16,17] [1,3])))
 (.cond (.t 17) (.seq (.ak [Qf 20 4 1,Ql 21 20,Qf 22 4 3,Qs 1 22 21] [1,3,4] [1,3])
 (.seq (.ak [Qm 23 4,Qm 24 23,Qg 25 (.load true 5 (.t 1)) 24 true,Qg 26 (.load true 5 (.t 3)) 24 true,Qg 27 (.eqs false [.int,.int,.int,.int,.str] (.t 25) (.t 26)) 24 true,
   Q 28 (.pick (.t 24) (.t 27) (kB false)),Qm 29 28,Qg 30 (.bH 4 (.t 1)) 29 true,Qg 31 (.load false 1 (.t 30)) 29 true,Qg 32 (.call 89 [.t 31] [] []) 29 true,
   Q 33 (.pick (.t 29) (.t 32) (kB false)),Qm 2 33] [2] [])
 (.ret))) (.seq (.ak [Q 35 (.bin .eql (.t 16) (kI 3)),Qm 34 35] [1,3,4,16,34] [1,3])
 (.cond (.t 34) (.seq (.ak [Qm 36 4,Qm 37 36,Qg 38 (.load true 5 (.t 1)) 37 true,Qg 39 (.load true 5 (.t 3)) 37 true,Qg 40 (.eqs false [.int,.int,.int,.int,.str] (.t 38) (.t 39)) 37 true,
   Q 41 (.pick (.t 37) (.t 40) (kB false)),Qm 2 41] [2] [])
 (.ret)) (.seq (.ak [Q 43 (.bin .eql (.t 16) (kI 4)),Qm 42 43] [1,3,4,16,42] [1,3])
 (.cond (.t 42) (.seq (.ak [Qm 44 4,Qm 45 44,Qg 46 (.bH 2 (.t 1)) 45 true,Qg 47 (.load false 1 (.t 46)) 45 true,Qg 48 (.call 147 [.t 47] [] []) 45 true,Q 49 (.pick (.t 45) (.t 48) (kB false)),
   Qm 50 49,Qg 51 (.bH 3 (.t 1)) 50 true,Qg 52 (.load false 1 (.t 51)) 50 true,Qg 53 (.call 148 [.t 52] [] []) 50 true,Q 54 (.pick (.t 50) (.t 53) (kB false)),Qm 55 54,
   Qg 56 (.bH 4 (.t 1)) 55 true,Qg 57 (.load false 1 (.t 56)) 55 true,Qg 58 (.lC (.t 57)) 55 true,Qg 59 (.bin .leq (.t 58) (kI 60)) 55 true,
   Q 60 (.pick (.t 55) (.t 59) (kB false)),Qm 2 60] [2] [])
 (.ret)) (.seq (.ak [Q 62 (.bin .eql (.t 16) (kI 5)),Qm 61 62] [1,3,4,16,61] [1,3])
 (.cond (.t 61) (.seq (.ak [Qf 63 2 1,Ql 64 63,Qf 65 2 3,Qs 1 65 64] [1,3,4] [1,3])
 (.seq (.ak [Qf 66 3 1,Ql 67 66,Qf 68 3 3,Qs 1 68 67] [1,3,4] [1,3])
 (.seq (.ak [Qm 69 4,Qm 70 69,Qg 71 (.load true 5 (.t 1)) 70 true,Qg 72 (.load true 5 (.t 3)) 70 true,Qg 73 (.eqs false [.int,.int,.int,.int,.str] (.t 71) (.t 72)) 70 true,
   Q 74 (.pick (.t 70) (.t 73) (kB false)),Qm 75 74,Qg 76 (.bH 2 (.t 1)) 75 true,Qg 77 (.load false 1 (.t 76)) 75 true,Qg 78 (.call 147 [.t 77] [] []) 75 true,
   Q 79 (.pick (.t 75) (.t 78) (kB false)),Qm 80 79,Qg 81 (.bH 3 (.t 1)) 80 true,Qg 82 (.load false 1 (.t 81)) 80 true,Qg 83 (.call 148 [.t 82] [] []) 80 true,
   Q 84 (.pick (.t 80) (.t 83) (kB false)),Qm 2 84] [2] [])
 (.ret)))) (.seq (.ak [Q 86 (.bin .eql (.t 16) (kI 6)),Qm 85 86] [1,3,4,16,85] [1,3])
 (.cond (.t 85) (.seq (.ak [Qf 87 2 1,Ql 88 87,Qf 89 2 3,Qs 1 89 88] [1,3,4] [1,3])
 (.seq (.ak [Qm 90 4,Qm 91 90,Qg 92 (.load true 5 (.t 1)) 91 true,Qg 93 (.load true 5 (.t 3)) 91 true,Qg 94 (.eqs false [.int,.int,.int,.int,.str] (.t 92) (.t 93)) 91 true,
   Q 95 (.pick (.t 91) (.t 94) (kB false)),Qm 96 95,Qg 97 (.bH 2 (.t 1)) 96 true,Qg 98 (.load false 1 (.t 97)) 96 true,Qg 99 (.call 147 [.t 98] [] []) 96 true,
   Q 100 (.pick (.t 96) (.t 99) (kB false)),Qm 2 100] [2] [])
 (.ret))) (.seq (.ak [Q 102 (.bin .eql (.t 16) (kI 7)),Qm 101 102] [1,101] [1])
 (.cond (.t 101) (.seq (.ak [Qf 104 4 1,Ql 105 104,Q 106 (.call 76 [.t 105] [] []),Qm 103 106,Qx 107 0 103,Qx 108 1 103,Q 5 (.alloc [.int .i64 0,.int .i64 0,.aN 7,.aN 1]),Qs 4 5 107,Qm 6 108] [1,6] [1])
 (.seq (.ak [Qm 109 6,Qm 110 109,Qg 111 (.load true 5 (.t 1)) 110 true,Qg 112 (.bH 4 (.t 1)) 110 true,Qg 113 (.load false 1 (.t 112)) 110 true,
   Qg 114 (.build [.int .i64 0,.int .i64 0,.int .i64 0,.int .i64 0,.str ⟨#[]⟩] [(0,1,kI 7),(4,1,.t 113)]) 110 true,
   Qg 115 (.eqs false [.int,.int,.int,.int,.str] (.t 111) (.t 114)) 110 true,Q 116 (.pick (.t 110) (.t 115) (kB false)),Qm 2 116] [2] [])
 (.ret))) (.skip)))))))))))))))
 (.seq (.ak [Qb 2 false] [2] [])
 (.ret)))))
def aP.m:Fn:={np:=1,body:=aP.b,res:=[.tmp 2]}
def aP.k(M:Nat→Option Body):Prop:=M 59=some (.code aP.m)∧bF.k M∧dP.k M∧fT.k M∧fw.k M
def cw.b:C:= .seq (.ak [Qv 2 0,Qv 3 1,Q 4 (.alloc [.int .i64 0,.int .i64 0,.aN 7,.aN 1]),Qb 5 false] [2,3,4] [2,3,4])
 (.seq (.seq (.ak [QL 8 5 3,Q 9 (.call 59 [.t 8] [] []),Q 10 (.not (.t 9))] [2,3,4,10] [2,3,4])
 (.cond (.t 10) (.seq (.ak [QL 11 4 2,Q 12 (.call 220 [.t 11] [] []),Qs 4 4 12,Qb 5 false] [4,5] [4])
 (.ret)) (.skip)))
 (.seq (.seq (.ak [Qf 13 0 3,Ql 14 13] [2,3,4,14] [2,3,4])
 (.block 0 (.seq (.ak [Q 16 (.bin .eql (.t 14) (kI 1)),Qm 15 16] [2,3,4,14,15] [2,3,4])
 (.cond (.t 15) (.seq (.ak [QL 17 4 2,Qf 18 1 3,Ql 19 18,Qf 20 4 3,Ql 21 20,Q 22 (.call 409 [.t 17,.t 19,.t 21] [] []),Qx 23 0 22,Qx 24 1 22,Qs 4 4 23,Qm 5 24] [4,5] [4])
 (.ret)) (.seq (.ak [Q 26 (.bin .eql (.t 14) (kI 2)),Qm 25 26] [2,3,4,14,25] [2,3,4])
 (.cond (.t 25) (.seq (.ak [QL 27 4 2,Qf 28 1 3,Ql 29 28,Qf 30 4 3,Ql 31 30,Q 32 (.call 411 [.t 27,.t 29,.t 31] [] []),Qx 33 0 32,Qx 34 1 32,Qs 4 4 33,Qm 5 34] [4,5] [4])
 (.ret)) (.seq (.ak [Q 36 (.bin .eql (.t 14) (kI 3)),Qm 35 36] [2,3,4,14,35] [2,3,4])
 (.cond (.t 35) (.seq (.ak [QL 37 4 2,Qf 38 1 3,Ql 39 38,Q 40 (.call 412 [.t 37,.t 39] [] []),Qx 41 0 40,Qx 42 1 40,Qs 4 4 41,Qm 5 42] [4,5] [4])
 (.ret)) (.seq (.ak [Q 44 (.bin .eql (.t 14) (kI 4)),Qm 43 44] [2,3,4,14,43] [2,3,4])
 (.cond (.t 43) (.seq (.ak [QL 45 4 2,Qf 46 1 3,Ql 47 46,Qf 48 2 3,Ql 49 48,Qf 50 3 3,Ql 51 50,Qf 52 4 3,Ql 53 52,Q 54 (.call 410 [.t 45,.t 47,.t 49,.t 51,.t 53] [] []),Qx 55 0 54,Qx 56 1 54,
   Qs 4 4 55,Qm 5 56] [4,5] [4])
 (.ret)) (.seq (.ak [Q 58 (.bin .eql (.t 14) (kI 5)),Qm 57 58] [2,3,4,14,57] [2,3,4])
 (.cond (.t 57) (.seq (.ak [QL 59 4 2,Qf 60 1 3,Ql 61 60,Qf 62 2 3,Ql 63 62,Qf 64 3 3,Ql 65 64,Q 66 (.call 428 [.t 59,.t 61,.t 63,.t 65] [] []),Qx 67 0 66,Qx 68 1 66,Qs 4 4 67,Qm 5 68] [4,5] [4])
 (.ret)) (.seq (.ak [Q 70 (.bin .eql (.t 14) (kI 6)),Qm 69 70] [2,3,4,69] [2,3,4])
 (.cond (.t 69) (.seq (.ak [QL 71 4 2,Qf 72 1 3,Ql 73 72,Qf 74 2 3,Ql 75 74,Q 76 (.call 429 [.t 71,.t 73,.t 75] [] []),Qx 77 0 76,Qx 78 1 76,Qs 4 4 77,Qm 5 78] [4,5] [4])
 (.ret)) (.skip)))))))))))))))
 (.seq (.ak [Qf 80 4 3,Ql 81 80,Q 82 (.call 76 [.t 81] [] []),Qm 79 82,Qx 83 0 79,Qx 84 1 79,Q 6 (.alloc [.int .i64 0,.int .i64 0,.aN 7,.aN 1]),Qs 4 6 83,Qm 7 84] [2,4,6] [2,4,6])
 (.seq (.seq (.ak [Qf 85 0 6,Ql 86 85,Qf 87 0 2,Ql 88 87,Q 89 (.bin .eql (.t 86) (.t 88)),Qm 90 89,Qg 91 (.load true 4 (.t 2)) 90 false,Qg 92 (.load true 4 (.t 6)) 90 false,
   Qg 93 (.call 433 [.t 91,.t 92] [] []) 90 false,Qg 94 (.not (.t 93)) 90 false,Q 95 (.pick (.t 90) (kB true) (.t 94))] [2,4,6,95] [2,4,6])
 (.cond (.t 95) (.seq (.ak [QL 96 4 2,Q 97 (.call 220 [.t 96] [] []),Qs 4 4 97,Qb 5 false] [4,5] [4])
 (.ret)) (.skip)))
 (.seq (.ak [QL 98 4 2,QL 99 4 6,Q 100 (.call 447 [.t 98,.t 99] [] []),Qs 4 4 100,Qb 5 true] [4,5] [4])
 (.ret))))))
def cw.m:Fn:={np:=2,body:=cw.b,res:=[.cell 4 true 4,.tmp 5]}
def cw.k(M:Nat→Option Body):Prop:=M 469=some (.code cw.m)∧aP.k M∧bF.k M∧b4.k M∧cV.k M∧eR.k M∧dM.k M∧fy.k M∧eK.k M∧eM.k M∧eU.k M∧bC.k M
def cM.b:C:= .seq (.ak [Qv 2 0,Qv 3 1,Q 4 (.alloc [.int .i64 0,.int .i64 0,.aN 7,.aN 1]),Qb 5 false] [2,3,4] [2,3,4])
 (.seq (.seq (.ak [QL 8 5 3,Q 9 (.call 58 [.t 8] [] []),Q 10 (.not (.t 9))] [2,3,4,10] [2,3,4])
 (.cond (.t 10) (.seq (.ak [QL 11 4 2,Q 12 (.call 219 [.t 11] [] []),Qs 4 4 12,Qb 5 false] [4,5] [4])
 (.ret)) (.skip)))
 (.seq (.seq (.ak [Qf 13 0 3,Ql 14 13] [2,3,4,14] [2,3,4])
 (.block 0 (.seq (.ak [Q 16 (.bin .eql (.t 14) (kI 1)),Qm 15 16] [2,3,4,14,15] [2,3,4])
 (.cond (.t 15) (.seq (.ak [QL 17 4 2,Qf 18 1 3,Ql 19 18,Qf 20 4 3,Ql 21 20,Q 22 (.call 278 [.t 17,.t 19,.t 21] [] []),Qx 23 0 22,Qx 24 1 22,Qs 4 4 23,Qm 5 24] [4,5] [4])
 (.ret)) (.seq (.ak [Q 26 (.bin .eql (.t 14) (kI 2)),Qm 25 26] [2,3,4,14,25] [2,3,4])
 (.cond (.t 25) (.seq (.ak [QL 27 4 2,Qf 28 1 3,Ql 29 28,Qf 30 4 3,Ql 31 30,Q 32 (.call 282 [.t 27,.t 29,.t 31] [] []),Qx 33 0 32,Qx 34 1 32,Qs 4 4 33,Qm 5 34] [4,5] [4])
 (.ret)) (.seq (.ak [Q 36 (.bin .eql (.t 14) (kI 3)),Qm 35 36] [2,3,4,14,35] [2,3,4])
 (.cond (.t 35) (.seq (.ak [QL 37 4 2,Qf 38 1 3,Ql 39 38,Q 40 (.call 283 [.t 37,.t 39] [] []),Qx 41 0 40,Qx 42 1 40,Qs 4 4 41,Qm 5 42] [4,5] [4])
 (.ret)) (.seq (.ak [Q 44 (.bin .eql (.t 14) (kI 4)),Qm 43 44] [2,3,4,14,43] [2,3,4])
 (.cond (.t 43) (.seq (.ak [QL 45 4 2,Qf 46 1 3,Ql 47 46,Qf 48 2 3,Ql 49 48,Qf 50 3 3,Ql 51 50,Qf 52 4 3,Ql 53 52,Q 54 (.call 279 [.t 45,.t 47,.t 49,.t 51,.t 53] [] []),Qx 55 0 54,Qx 56 1 54,
   Qs 4 4 55,Qm 5 56] [4,5] [4])
 (.ret)) (.seq (.ak [Q 58 (.bin .eql (.t 14) (kI 5)),Qm 57 58] [2,3,4,14,57] [2,3,4])
 (.cond (.t 57) (.seq (.ak [QL 59 4 2,Qf 60 1 3,Ql 61 60,Qf 62 2 3,Ql 63 62,Qf 64 3 3,Ql 65 64,Q 66 (.call 280 [.t 59,.t 61,.t 63,.t 65] [] []),Qx 67 0 66,Qx 68 1 66,Qs 4 4 67,Qm 5 68] [4,5] [4])
 (.ret)) (.seq (.ak [Q 70 (.bin .eql (.t 14) (kI 6)),Qm 69 70] [2,3,4,69] [2,3,4])
 (.cond (.t 69) (.seq (.ak [QL 71 4 2,Qf 72 1 3,Ql 73 72,Qf 74 2 3,Ql 75 74,Q 76 (.call 281 [.t 71,.t 73,.t 75] [] []),Qx 77 0 76,Qx 78 1 76,Qs 4 4 77,Qm 5 78] [4,5] [4])
 (.ret)) (.skip)))))))))))))))
 (.seq (.ak [Qf 80 4 3,Ql 81 80,Q 82 (.call 75 [.t 81] [] []),Qm 79 82,Qx 83 0 79,Qx 84 1 79,Q 6 (.alloc [.int .i64 0,.int .i64 0,.aN 7,.aN 1]),Qs 4 6 83,Qm 7 84] [2,4,6] [2,4,6])
 (.seq (.seq (.ak [Qf 85 0 6,Ql 86 85,Qf 87 0 2,Ql 88 87,Q 89 (.bin .eql (.t 86) (.t 88)),Qm 90 89,Qg 91 (.load true 4 (.t 2)) 90 false,Qg 92 (.load true 4 (.t 6)) 90 false,
   Qg 93 (.call 432 [.t 91,.t 92] [] []) 90 false,Qg 94 (.not (.t 93)) 90 false,Q 95 (.pick (.t 90) (kB true) (.t 94))] [2,4,6,95] [2,4,6])
 (.cond (.t 95) (.seq (.ak [QL 96 4 2,Q 97 (.call 219 [.t 96] [] []),Qs 4 4 97,Qb 5 false] [4,5] [4])
 (.ret)) (.skip)))
 (.seq (.ak [QL 98 4 2,QL 99 4 6,Q 100 (.call 446 [.t 98,.t 99] [] []),Qs 4 4 100,Qb 5 true] [4,5] [4])
 (.ret))))))
def cM.m:Fn:={np:=2,body:=cM.b,res:=[.cell 4 true 4,.tmp 5]}
def cM.k(M:Nat→Option Body):Prop:=M 468=some (.code cM.m)∧aX.k M∧bh.k M∧cj.k M∧bT.k M∧dq.k M∧dg.k M∧dh.k M∧cF.k M∧dv.k M∧eS.k M∧bI.k M
def bu.tl:C:= .seq (.ak [Qm 42 0,Q 43 (.call 125 [.t 42,kI 12] [0] []),Qm 10 43] [0,2,4,6,7,8,10] [0,4,6])
 (.seq (.block 0 (.seq (.ak [Qm 45 7,Q 46 (.bin .eql (.t 45) (kI 0)),Qm 47 46,Qg 48 (.mv (.t 10)) 47 false,Qg 49 (.bin .eql (.t 48) (kI 0)) 47 false,Q 50 (.pick (.t 47) (kB true) (.t 49)),Qm 44 50] [0,2,4,6,7,8,10,44] [0,4,6])
 (.cond (.t 44) (.seq (.ak [Qm 51 2,Qm 52 0,Q 53 (.tz 1 3 [.str ⟨#[]⟩] [(0,.k (.str ⟨#[105,110,98,111,120]⟩)),(1,.k (.str ⟨#[119,111,114,107]⟩)),(2,.k (.str ⟨#[111,108,100]⟩))]),
   Q 54 (.call 185 [.t 52,.t 53] [0] []),Q 55 (.build [.int .i64 0,.int .i64 0,.int .i64 0,.int .i64 0,.str ⟨#[]⟩] [(0,1,kI 1),(1,1,.t 51),(4,1,.t 54)]),Qs 5 6 55] [6] [0,6])
 (.ret)) (.seq (.ak [Qm 57 10,Q 58 (.bin .lss (.t 57) (kI 5)),Qm 59 58,Qg 60 (.mv (.t 8)) 59 false,Qg 61 (.bin .eql (.t 60) (kI 0)) 59 false,Q 62 (.pick (.t 59) (kB true) (.t 61)),Qm 56 62] [0,2,4,6,7,8,10,56] [0,4,6])
 (.cond (.t 56) (.seq (.ak [Qm 63 7,Qm 64 2,Qm 65 0,Q 66 (.call 125 [.t 65,kI 8] [0] []),Qm 67 0,Q 68 (.call 174 [.t 67] [0] []),
   Q 69 (.build [.int .i64 0,.int .i64 0,.int .i64 0,.int .i64 0,.str ⟨#[]⟩] [(0,1,kI 4),(1,1,.t 63),(2,1,.t 64),(3,1,.t 66),(4,1,.t 68)]),Qs 5 6 69] [6] [0,6])
 (.ret)) (.seq (.ak [Qm 71 10,Q 72 (.bin .lss (.t 71) (kI 8)),Qm 70 72] [0,4,6,7,8,10,70] [0,4,6])
 (.cond (.t 70) (.seq (.ak [Qm 73 7,Qm 74 8,Qm 75 0,Q 76 (.call 125 [.t 75,kI 8] [0] []),
   Q 77 (.build [.int .i64 0,.int .i64 0,.int .i64 0,.int .i64 0,.str ⟨#[]⟩] [(0,1,kI 5),(1,1,.t 73),(2,1,.t 74),(3,1,.t 76)]),Qs 5 6 77] [6] [0,6])
 (.ret)) (.seq (.ak [Qm 79 10,Q 80 (.bin .eql (.t 79) (kI 8)),Qm 78 80] [0,4,6,7,8,10,78] [0,4,6])
 (.cond (.t 78) (.seq (.ak [Qm 81 7,Qm 82 8,Q 83 (.build [.int .i64 0,.int .i64 0,.int .i64 0,.int .i64 0,.str ⟨#[]⟩] [(0,1,kI 6),(1,1,.t 81),(2,1,.t 82)]),Qs 5 6 83] [6] [0,6])
 (.ret)) (.seq (.ak [Qm 85 10,Q 86 (.bin .eql (.t 85) (kI 9)),Qm 84 86] [0,4,6,7,10,84] [0,4,6])
 (.cond (.t 84) (.seq (.ak [Qm 87 7,Qm 88 0,Q 89 (.tz 1 3 [.str ⟨#[]⟩] [(0,.k (.str ⟨#[110,101,119]⟩)),(1,.k (.str ⟨#[105,110,98,111,120]⟩)),(2,.k (.str ⟨#[111,116,104,101,114]⟩))]),
   Q 90 (.call 185 [.t 88,.t 89] [0] []),Q 91 (.build [.int .i64 0,.int .i64 0,.int .i64 0,.int .i64 0,.str ⟨#[]⟩] [(0,1,kI 2),(1,1,.t 87),(4,1,.t 90)]),Qs 5 6 91] [6] [0,6])
 (.ret)) (.seq (.ak [Qm 93 10,Q 94 (.bin .eql (.t 93) (kI 10)),Qm 92 94] [0,4,6,7,92] [0,4,6])
 (.cond (.t 92) (.seq (.ak [Qm 95 7,Q 96 (.build [.int .i64 0,.int .i64 0,.int .i64 0,.int .i64 0,.str ⟨#[]⟩] [(0,1,kI 3),(1,1,.t 95)]),Qs 5 6 96] [6] [0,6])
 (.ret)) (.skip))))))))))))))
 (.seq (.ak [Qm 98 0,Qf 99 0 4,Ql 100 99,Q 101 (.bin .sub (kI 3) (.t 100)),Q 102 (.call 113 [.t 101] [] []),Q 103 (.call 244 [.t 98,.t 102,kI 5,kI 700] [0] []),
   Q 104 (.call 60 [.t 103] [] []),Qm 97 104,Qx 105 0 97,Qx 106 1 97,Qm 11 105,Qm 12 106] [6,11] [0,6])
 (.seq (.ak [Qm 107 11,Q 108 (.build [.int .i64 0,.int .i64 0,.int .i64 0,.int .i64 0,.str ⟨#[]⟩] [(0,1,kI 7),(4,1,.t 107)]),Qs 5 6 108] [6] [0,6])
 (.ret))))
def bu.b:C:= .seq (.ak [Qv 4 1,Q 6 (.alloc [.int .i64 0,.int .i64 0,.int .i64 0,.int .i64 0,.str ⟨#[]⟩])] [0,2,4,6] [0,4,6])
 (.seq (.ak [Qi 7 0] [0,2,4,6,7] [0,4,6])
 (.seq (.ak [Qi 8 0] [0,2,4,6,7,8] [0,4,6])
 (.seq (.seq (.ak [Qf 13 2 4,Ql 14 13,Q 15 (.len (.t 14)),Q 16 (.bin .gtr (.t 15) (kI 0))] [0,2,4,6,7,8,16] [0,4,6])
 (.cond (.t 16) (.seq (.gm [Qf 17 2 4,Ql 18 17,Qm 19 0,Qf 20 2 4,Ql 21 20,Q 22 (.len (.t 21)),Q 23 (.call 125 [.t 19,.t 22] [0] []),Qa 24 7 18 23,QL 25 7 24,
   Q 9 (.alloc [.int .i64 0,.str ⟨#[]⟩,.int .i64 0,.int .i64 0,.int .i64 0,.aN 4,.aN 1]),Qs 7 9 25] [[],[0],[],[],[3],[3,4],[2,3,4,5],lr 7,lr 8,[],lr 10] [0,2,4,6,8,9] [0,4,6,9])
 (.seq (.ak [Qf 26 0 9,Ql 27 26,Qm 7 27] [0,2,4,6,7,8,9] [0,4,6,9])
 (.seq (.ak [Qf 28 5 9,Ql 29 28,Q 30 (.len (.t 29)),Q 31 (.bin .gtr (.t 30) (kI 0))] [0,2,4,6,7,8,9,31] [0,4,6,9])
 (.cond (.t 31) (.gm [Qf 32 5 9,Ql 33 32,Qm 34 0,Qf 35 5 9,Ql 36 35,Q 37 (.len (.t 36)),Q 38 (.call 125 [.t 34,.t 37] [0] []),Qa 39 4 33 38,Qf 40 0 39,Ql 41 40,Qm 8 41] [[],[0],[],[],[3],[3,4],[2,3,4,5],lr 7,lr 8,lr 9,lr 10] [0,2,4,6,7,8] [0,4,6]) (.skip))))) (.skip)))
 bu.tl)))
def bu.m:Fn:={np:=3,body:=bu.b,res:=[.cell 6 true 5]}
def bu.k(M:Nat→Option Body):Prop:=M 519=some (.code bu.m)∧b9.k M∧fe.k M∧bD.k M∧fU.k M∧dS.k M∧a_.k M
def gN.l0:C:= .seq (.ak [Q 17 (.bin .lss (.t 16) (.t 15))] [4,6,7,14,15,16,17] [4,6])
 (.seq (.cond (.t 17) (.skip) (.exit 0))
 (.seq (.block 1 (.seq (.ak [Qa 18 5 14 16,QL 19 5 18,Q 9 (.alloc [.int .i64 0,.int .i64 0,.int .i64 0,.int .i64 0,.str ⟨#[]⟩]),Qs 5 9 19] [4,6,7,9,14,15,16] [4,6,9])
 (.seq (.shut [] (.ak [QL 21 4 6,QL 22 5 9,Q 23 (.call 469 [.t 21,.t 22] [] []),Qm 20 23,Qx 24 0 20,Qx 25 1 20,Q 10 (.alloc [.int .i64 0,.int .i64 0,.aN 7,.aN 1]),Qs 4 10 24,Qm 11 25] [4,6,7,10,11,14,15,16] [4,6,10]))
 (.seq (.ak [QL 26 4 10,Qs 4 6 26] [4,6,7,11,14,15,16] [4,6])
 (.seq (.ak [Qm 27 11] [4,6,7,14,15,16,27] [4,6])
 (.cond (.t 27) (.ak [Qm 28 7,Q 29 (.bin .add (.t 28) (kI 1)),Qm 7 29] [4,6,7,14,15,16] [4,6]) (.skip)))))))
 (.ak [Q 30 (.bin .add (.t 16) (kI 1)),Qm 16 30] [4,6,7,14,15,16] [4,6])))
def gN.b:C:= .seq (.ak [Qv 2 0,Q 4 (.alloc [.int .i64 0,.int .i64 0,.aN 7,.aN 1]),Qi 5 0] [1,2,4] [2,4])
 (.seq (.ak [QL 12 4 2,Q 13 (.call 220 [.t 12] [] []),Q 6 (.alloc [.int .i64 0,.int .i64 0,.aN 7,.aN 1]),Qs 4 6 13] [1,4,6] [4,6])
 (.seq (.ak [Qi 7 0] [1,4,6,7] [4,6])
 (.seq (.seq (.ak [Qm 14 1,Q 15 (.len (.t 14)),Qi 16 0] [4,6,7,14,15,16] [4,6])
 (.block 0 (.loop gN.l0)))
 (.seq (.ak [QL 31 4 6,Qm 32 7,Qs 4 4 31,Qm 5 32] [4,5] [4])
 (.ret)))))
def gN.m:Fn:={np:=2,body:=gN.b,res:=[.cell 4 true 4,.tmp 5]}
def gN.k(M:Nat→Option Body):Prop:=M 451=some (.code gN.m)∧b4.k M∧cw.k M
def de.l0:C:= .seq (.seq (.ak [Qm 12 7,Qm 13 0,Q 14 (.call 125 [.t 13,kI 10] [0] []),Q 15 (.bin .add (kI 1) (.t 14)),Q 16 (.bin .lss (.t 12) (.t 15))] [0,1,5,6,7,16] [0,5,11,35])
 (.cond (.t 16) (.skip) (.exit 0)))
 (.seq (.block 1 (.seq (.ak [Qm 19 0,QL 20 4 5,Qm 21 1,Q 22 (.bin .mul (kI 100) (.t 21)),Qm 23 7,Q 24 (.bin .add (.t 22) (.t 23)),Q 25 (.call 519 [.t 19,.t 20,.t 24] [0] []),
   Q 8 (.alloc [.int .i64 0,.int .i64 0,.int .i64 0,.int .i64 0,.str ⟨#[]⟩]),Qs 5 8 25] [0,1,5,6,7,8] [0,5,8,11,35])
 (.seq (.ak [QL 27 4 5,QL 28 5 8,Q 29 (.call 468 [.t 27,.t 28] [] []),Qm 26 29,Qx 30 0 26,Qx 31 1 26,Qs 4 5 30] [0,1,5,6,7,8] [0,5,8,11,35])
 (.ak [Qm 32 6,QL 33 5 8,Q 34 (.bZ 5 1 [.int .i64 0,.int .i64 0,.int .i64 0,.int .i64 0,.str ⟨#[]⟩] [(0,.t 33)]),Q 35 (.app 5 48 (.t 32) (.t 34)),Qm 6 35] [0,1,5,6,7] [0,5,11,35]))))
 (.ak [Qm 17 7,Q 18 (.bin .add (.t 17) (kI 1)),Qm 7 18] [0,1,5,6,7] [0,5,11,35]))
def de.b:C:= .seq (.ak [Q 4 (.nil 5)] [0,1] [0])
 (.seq (.ak [Qm 9 1,Q 10 (.call 113 [.t 9] [] []),Q 5 (.alloc [.int .i64 0,.int .i64 0,.aN 7,.aN 1]),Qs 4 5 10] [0,1,5] [0,5])
 (.seq (.ak [Q 11 (.bZ 5 0 [.int .i64 0,.int .i64 0,.int .i64 0,.int .i64 0,.str ⟨#[]⟩] []),Qm 6 11] [0,1,5,6] [0,5,11,35])
 (.seq (.seq (.ak [Qi 7 0] [0,1,5,6,7] [0,5,11,35])
 (.block 0 (.loop de.l0)))
 (.seq (.ak [Qm 36 6,Qm 4 36] [4] [0,4,11,35])
 (.ret)))))
def de.m:Fn:={np:=2,body:=de.b,res:=[.tmp 4]}
def de.k(M:Nat→Option Body):Prop:=M 516=some (.code de.m)∧fe.k M∧bD.k M∧cM.k M∧bu.k M
def gk.b:C:= .seq (.ak [Q 2 (.alloc [.int .i64 0,.int .i64 0,.aN 7,.aN 1]),Q 3 (.nil 5)] [0,2] [2])
 (.seq (.ak [Qm 6 0,Q 7 (.call 124 [.t 6] [] [(0,10700)]),Qm 4 7] [2,4] [2,10700])
 (.seq (.ak [Qm 8 4,Q 9 (.call 125 [.t 8,kI 2] [0] []),Q 10 (.bin .add (kI 1) (.t 9)),Qm 5 10] [2,4,5] [2,10700])
 (.seq (.ak [Qm 11 5,Q 12 (.call 113 [.t 11] [] []),Qm 13 4,Qm 14 5,Q 15 (.call 516 [.t 13,.t 14] [0] [(0,11500)]),Qs 4 2 12,Qm 3 15] [2,3] [2,3,11500])
 (.ret))))
def gk.m:Fn:={np:=1,body:=gk.b,res:=[.cell 2 true 4,.tmp 3]}
def gk.k(M:Nat→Option Body):Prop:=M 508=some (.code gk.m)∧fe.k M∧fK.k M∧bD.k M∧de.k M
def bY.l0:C:= .seq (.seq (.ak [Qm 26 9,Qm 27 4,Q 28 (.len (.t 27)),Q 29 (.bin .lss (.t 26) (.t 28))] [4,5,6,7,8,9,29] [5,7])
 (.cond (.t 29) (.skip) (.exit 0)))
 (.seq (.block 1 (.seq (.gm [QL 33 4 7,Qm 34 4,Qm 35 9,Qa 36 5 34 35,QL 37 5 36,Q 38 (.call 469 [.t 33,.t 37] [] []),Qm 32 38,Qx 39 0 32,Qx 40 1 32,
   Q 10 (.alloc [.int .i64 0,.int .i64 0,.aN 7,.aN 1]),Qs 4 10 39,Qm 11 40] [[],[],[],[1,2],[1,2,3],lr 5,lr 6,lr 7,lr 7,[],lr 8++[9],lr 11] [4,5,6,7,8,9,10,11] [5,7,10])
 (.seq (.seq (.ak [Qm 41 11] [4,5,6,7,8,9,10,41] [5,7,10])
 (.cond (.t 41) (.ak [Qm 42 8,Q 43 (.bin .add (.t 42) (kI 1)),Qm 8 43] [4,5,6,7,8,9,10] [5,7,10]) (.skip)))
 (.ak [QL 44 4 10,Qs 4 7 44] [4,5,6,7,8,9] [5,7]))))
 (.ak [Qm 30 9,Q 31 (.bin .add (.t 30) (kI 1)),Qm 9 31] [4,5,6,7,8,9] [5,7]))
def bY.b:C:= .seq (.ak [Qb 2 false] [0] [])
 (.seq (.seq (.ak [Qm 12 0,Q 13 (.call 36 [.t 12] [] [])] [0,13] [])
 (.cond (.t 13) (.seq (.ak [Qb 2 true] [2] [])
 (.ret)) (.skip)))
 (.seq (.ak [Qm 15 0,Q 16 (.call 508 [.t 15] [] []),Qm 14 16,Qx 17 0 14,Qx 18 1 14,Q 3 (.alloc [.int .i64 0,.int .i64 0,.aN 7,.aN 1]),Qs 4 3 17,Qm 4 18] [3,4] [3])
 (.seq (.ak [QL 20 4 3,Qm 21 4,Q 22 (.call 451 [.t 20,.t 21] [] []),Qm 19 22,Qx 23 0 19,Qx 24 1 19,Q 5 (.alloc [.int .i64 0,.int .i64 0,.aN 7,.aN 1]),Qs 4 5 23,Qm 6 24] [3,4,5,6] [3,5])
 (.seq (.ak [QL 25 4 3,Q 7 (.alloc [.int .i64 0,.int .i64 0,.aN 7,.aN 1]),Qs 4 7 25] [4,5,6,7] [5,7])
 (.seq (.ak [Qi 8 0] [4,5,6,7,8] [5,7])
 (.seq (.seq (.ak [Qi 9 0] [4,5,6,7,8,9] [5,7])
 (.block 0 (.loop bY.l0)))
 (.seq (.ak [Qm 45 6,Qm 46 8,Q 47 (.bin .eql (.t 45) (.t 46)),Qm 48 47,Qg 49 (.load true 4 (.t 5)) 48 true,Qg 50 (.load true 4 (.t 7)) 48 true,
   Qg 51 (.call 421 [.t 49,.t 50] [] []) 48 true,Q 52 (.pick (.t 48) (.t 51) (kB false)),Qm 53 52,Qg 54 (.load true 4 (.t 5)) 53 true,Qg 55 (.call 150 [.t 54] [] []) 53 true,
   Q 56 (.pick (.t 53) (.t 55) (kB false)),Qm 57 56,Qg 58 (.mv (.t 6)) 57 true,Qg 59 (.bin .gtr (.t 58) (kI 0)) 57 true,Q 60 (.pick (.t 57) (.t 59) (kB false)),Qm 2 60] [2] [])
 (.ret))))))))
def bY.m:Fn:={np:=1,body:=bY.b,res:=[.tmp 2]}
def bY.k(M:Nat→Option Body):Prop:=M 501=some (.code bY.m)∧ky.k M∧aJ.k M∧fI.k M∧gN.k M∧cw.k M∧gk.k M
def jU(l:List Int)(x:Int):List Int:=l.filter (fun y=>decide (y<x))++[x]++l.filter (fun y=>decide (x<y))
def jz(l:List Int)(x:Int):List Int:=if x∈l then l else jU l x
def aQ(a b:List Int):List Int:=(a++b).foldl jz []
abbrev xl(l:List Int):Prop:=l.Pairwise (·<·)
theorem yU:∀{a b:List Int},xl a→xl b→(∀x,x∈a↔x∈b)→a=b
 |[],[],_,_,_=>rfl
 |[],y::b,_,_,h=>absurd ((h y).2 (bj ..)) (by simp)
 |x::a,[],_,_,h=>absurd ((h x).1 (bj ..)) (by simp)
 |x::a,y::b,ha,hb,h=>by
  obtain⟨ha1,ha2⟩:=List.pairwise_cons.1 ha;obtain⟨hb1,hb2⟩:=List.pairwise_cons.1 hb;have e:x=y:=by
   rcases List.mem_cons.1 ((h x).1 (bj ..)) with q|q
   ·exact q
   ·rcases List.mem_cons.1 ((h y).2 (bj ..)) with q'|q'
    ·exact q'.symm
    ·have:=ha1 y q';have:=hb1 x q;omega
  subst e;congr 1;refine yU ha2 hb2 fun z=>⟨fun hz=> ?_,fun hz=> ?_⟩
  ·rcases List.mem_cons.1 ((h z).1 (bp _ hz)) with q|q
   ·have:=ha1 z hz;omega
   ·exact q
  ·rcases List.mem_cons.1 ((h z).2 (bp _ hz)) with q|q
   ·have:=hb1 z hz;omega
   ·exact q
theorem nE{l:List Int}{x z:Int}:z∈jU l x↔z=x∨z∈l:=by
 simp only[jU,gP,fi,decide_eq_true_eq,gu];constructor
 ·rintro ((⟨h,_⟩|h)|⟨h,_⟩)
  ·exact .inr h
  ·exact .inl h
  ·exact .inr h
 ·rintro (h|h)
  ·exact .inl (.inr h)
  ·by_cases c:z<x
   ·exact .inl (.inl ⟨h,c⟩)
   ·by_cases c2:z=x
    ·exact .inl (.inr c2)
    ·exact .inr ⟨h,by omega⟩
theorem sC{l:List Int}{x:Int}(h:xl l):xl (jU l x):=by
 simp only[jU,xl,List.pairwise_append,List.pairwise_singleton,fi,decide_eq_true_eq,gu,gP];refine⟨⟨h.filter _,trivial, ?_⟩,h.filter _, ?_⟩
 ·rintro a ⟨_,ha⟩ b rfl;exact ha
 ·rintro a (⟨_,ha⟩|rfl) b ⟨_,hb⟩<;>omega
theorem EJ{l:List Int}{x z:Int}:z∈jz l x↔z=x∨z∈l:=by
 unfold jz;split
 ·rename_i h;constructor
  ·exact .inr
  ·rintro (rfl|q)
   ·exact h
   ·exact q
 ·exact nE
theorem EK{l:List Int}{x:Int}(h:xl l):xl (jz l x):=by
 unfold jz;split
 ·exact h
 ·exact sC h
theorem xO:∀(l acc:List Int) (z:Int),z∈l.foldl jz acc↔z∈l∨z∈acc
 |[],acc,z=>by simp
 |x::l,acc,z=>by
  simp only[eH,xO l,EJ,sV];constructor
  ·rintro (h|h|h)
   ·exact .inl (.inr h)
   ·exact .inl (.inl h)
   ·exact .inr h
  ·rintro ((h|h)|h)
   ·exact .inr (.inl h)
   ·exact .inl h
   ·exact .inr (.inr h)
theorem xP:∀(l acc:List Int),xl acc→xl (l.foldl jz acc)
 |[],acc,h=>h
 |x::l,acc,h=>xP l _ (EK h)
theorem mK(a b:List Int):xl (aQ a b):=xP _ _ List.Pairwise.nil
theorem iq(a b:List Int)(z:Int):z∈aQ a b↔z∈a∨z∈b:=by unfold aQ;rw[xO];simp
theorem wb(l:List Int)(x:Int):(jz l x).length≤l.length+1:=by
 unfold jz;split
 ·omega
 ·simp only[jU,aF,bP];have:∀l:List Int,(l.filter fun y=>decide (y<x)).length+(l.filter fun y=>decide (x<y)).length≤l.length:=by
   intro l
   induction l with
   |nil=>simp
   |cons y l ih=>
    simp only[h_];by_cases h1:y<x
    ·have h2:¬x<y:=by omega
     simp[h1,h2];omega
    ·by_cases h2:x<y
     ·simp[h1,h2];omega
     ·simp[h1,h2];omega
  have:=this l;omega
theorem qO:∀(l acc:List Int),(l.foldl jz acc).length≤l.length+acc.length
 |[],acc=>by simp
 |x::l,acc=>by
  have h1:=qO l (jz acc x);have h2:=wb acc x;simp only[eH,b7];omega
def dedup:List Int→List Int
 |[]=>[]
 |x::l=>x::(go x l)
where go:Int→List Int→List Int
 |_,[]=>[]
 |p,x::l=>if x=p then go x l else x::go x l
theorem pU:∀(l:List Int) (p z:Int),z∈dedup.go p l→z∈l
 |[],p,z,h=>by simp[dedup.go] at h
 |x::l,p,z,h=>by
  simp only[dedup.go] at h;split at h
  ·exact bp _ (pU l x z h)
  ·rcases List.mem_cons.1 h with rfl|h
   ·exact bj ..
   ·exact bp _ (pU l x z h)
theorem pK:∀(l:List Int) (p z:Int),z∈l→z=p∨z∈dedup.go p l
 |[],p,z,h=>by simp at h
 |x::l,p,z,h=>by
  simp only[dedup.go];split
  ·rename_i e;subst e;rcases List.mem_cons.1 h with q|q
   ·exact .inl q
   ·exact pK l x z q
  ·rcases List.mem_cons.1 h with q|q
   ·exact .inr (by rw[q];exact bj ..)
   ·rcases pK l x z q with q|q
    ·exact .inr (by rw[q];exact bj ..)
    ·exact .inr (bp _ q)
theorem sI:∀(l:List Int) (p:Int),l.Pairwise (·≤·)→(∀z∈l,p≤z)→xl (dedup.go p l)∧∀z∈dedup.go p l,p<z
 |[],p,_,_=>by simp[dedup.go]
 |x::l,p,h,hp=>by
  obtain⟨h1,h2⟩:=List.pairwise_cons.1 h;have hx:=hp x (bj ..);obtain⟨k1,k2⟩:=sI l x h2 h1;simp only[dedup.go];split
  ·rename_i e;exact⟨k1,fun z hz=>by have:=k2 z hz;omega⟩
  ·rename_i e;refine⟨List.pairwise_cons.2 ⟨k2,k1⟩,fun z hz=> ?_⟩;rcases List.mem_cons.1 hz with rfl|hz
   ·omega
   ·have:=k2 z hz;omega
theorem C_{l:List Int}(h:l.Pairwise (·≤·)):xl (dedup l):=by
 cases l with
 |nil=>exact List.Pairwise.nil
 |cons x l=>
  obtain⟨h1,h2⟩:=List.pairwise_cons.1 h;obtain⟨k1,k2⟩:=sI l x h2 h1;exact List.pairwise_cons.2 ⟨k2,k1⟩
theorem C9{l:List Int}{z:Int}:z∈dedup l↔z∈l:=by
 cases l with
 |nil=>simp[dedup]
 |cons x l=>
  simp only[dedup,sV];constructor
  ·rintro (h|h)
   ·exact .inl h
   ·exact .inr (pU l x z h)
  ·rintro (h|h)
   ·exact .inl h
   ·exact pK l x z h
theorem xe(l:List Int):Lib.compact l=dedup l:=by
 have key:∀(d:Array Int) (m:Nat) (l:List Int) (p:Int),0<m→m+l.length=d.size→d.toList.drop m=l→d[m-1]! =p→((List.range' m l.length).filter (Lib.keeps d)).map (d[·]!)=dedup.go p l:=by
  intro d m l
  induction l generalizing m with
  |nil=>intro p _ _ _ _;rfl
  |cons x l ih=>
   intro p hm hl hd hp;have hlt:m<d.size:=by simp at hl;omega
   have hx:d[m]! =x:=by
    rw[getElem!_pos d m hlt];have:=congrArg (·[0]?) hd;simpa [hlt] using this
   have ih':=ih (m+1) x (by omega) (by simp at hl;omega) (by rw[←List.tail_drop,hd];rfl) (by simpa using hx);simp only[b7,List.range'_succ,h_,dedup.go];by_cases e:x=p
   ·have hk:Lib.keeps d m=false:=Lib.keeps_neg hm (by rw[hx,hp,e]);rw[if_pos e,hk];simpa using ih'
   ·have hk:Lib.keeps d m=true:=Lib.keeps_pos (by rw[hx,hp];exact e);rw[if_neg e,hk];simp only[if_true,bE,hx,ih']
 cases l with
 |nil=>rfl
 |cons x l=>
  have hk:Lib.keeps (x::l).toArray 0=true:=Lib.keeps_lt_one _ 0 (by omega);unfold Lib.compact Lib.compactUpTo;rw[List.range_eq_range',b7,List.range'_succ,h_,hk];simp only[if_true,bE,dedup];congr 1;exact key (x::l).toArray 1 l x (by omega) (by simp;omega) (by simp) (by simp)
theorem zM(l:List Int):(Lib.compact l).length≤l.length:=by
 unfold Lib.compact Lib.compactUpTo;rw[fP];refine Nat.le_trans (bQ _ _) ?_;simp
theorem rA(a b:List Int):Lib.compact (kN (a++b))=aQ a b:=by
 rw[xe];have hs:(kN (a++b)).Pairwise (·≤·):=by
  have:=List.pairwise_mergeSort (le:=fun x y:Int=>decide (x≤y)) (fun a b c h1 h2=>by simp only[decide_eq_true_eq] at*;omega) (fun a b=>by simp only[Bool.or_eq_true,decide_eq_true_eq];omega) (a++b);exact this.imp fun h=>by simpa using h
 refine yU (C_ hs) (mK a b) fun z=> ?_
 rw[C9,iq];simp[kN]
end Mx
namespace Mx
open Go
variable {M:Nat→Option Body}
theorem eJ.ar(h:eJ.k M)(l:List Int)(hx:l.length≤1048576):run M 134 [.c (ints l)] []=some (.c (.sl true 1 (az l)),[]):=by
 have h1:l.length≤4294967296:=by omega
 refine aB (b:=eJ.m) h ⟨0, ?_⟩;simp[bl,eJ.m,eJ.b,aa,ab,h1]
end Mx
namespace Mx
open Go
theorem wrap_u8(x:Int):IntKind.u8.wrap x=x%256:=by
 unfold IntKind.wrap;simp[IntKind.bits,IntKind.signed]
theorem wrap_u32(x:Int):IntKind.u32.wrap x=x%4294967296:=by
 unfold IntKind.wrap;simp[IntKind.bits,IntKind.signed]
theorem uU(k:IntKind)(x y:Int):sP k x y=k.wrap (((x%((2^k.bits:Nat):Int)).toNat&&&(y%((2^k.bits:Nat):Int)).toNat:Nat):Int):=by
 unfold sP;rw[BitVec.toNat_and,BitVec.toNat_ofInt,BitVec.toNat_ofInt]
theorem IS(k:IntKind)(x y:Int):DB k x y=k.wrap (((x%((2^k.bits:Nat):Int)).toNat|||(y%((2^k.bits:Nat):Int)).toNat:Nat):Int):=by
 unfold DB;rw[BitVec.toNat_or,BitVec.toNat_ofInt,BitVec.toNat_ofInt]
theorem HC(n m:Nat)(hn:n<9223372036854775808)(hm:m<9223372036854775808):sP .i64 n m=((n&&&m:Nat):Int):=by
 rw[uU];have e:∀k:Nat,k<9223372036854775808→((k:Int)%((2^IntKind.i64.bits:Nat):Int)).toNat=k:=by
  intro k hk;show ((k:Int)%18446744073709551616).toNat=k;omega
 rw[e n hn,e m hm];have:n&&&m≤n:=Nat.and_le_left;exact wrap_i64 (by omega) (by omega)
theorem vE(n m:Nat)(hn:n<9223372036854775808)(hm:m<9223372036854775808):DB .i64 n m=((n|||m:Nat):Int):=by
 rw[IS];have e:∀k:Nat,k<9223372036854775808→((k:Int)%((2^IntKind.i64.bits:Nat):Int)).toNat=k:=by
  intro k hk;show ((k:Int)%18446744073709551616).toNat=k;omega
 rw[e n hn,e m hm];have:n|||m<2^63:=Nat.or_lt_two_pow (by omega) (by omega)
 exact wrap_i64 (by omega) (by omega)
theorem Jm(n m:Nat)(hn:n<256)(hm:m<256):sP .u8 n m=((n&&&m:Nat):Int):=by
 rw[uU];have e:∀k:Nat,k<256→((k:Int)%((2^IntKind.u8.bits:Nat):Int)).toNat=k:=by
  intro k hk;show ((k:Int)%256).toNat=k;omega
 rw[e n hn,e m hm,wrap_u8];have:n&&&m≤n:=Nat.and_le_left;omega
theorem Ci(n:Nat):n&&&127=n%128:=Nat.and_two_pow_sub_one_eq_mod n 7
theorem IQ(n:Nat)(h:n<128):n|||128=n+128:=by
 have:=Nat.two_pow_add_eq_or_of_lt (i:=7) (b:=n) h 1;rw[Nat.or_comm];have e:2^7*1=128:=by decide
 rw[e] at this;omega
theorem Gp(n d k:Nat)(h:n<128^k):n|||d*128^k=n+d*128^k:=by
 have e:(128:Nat)^k=2^(7*k):=by rw[show (128:Nat)=2^7 by decide,←Nat.pow_mul]
 rw[e] at h ⊢;have:=Nat.two_pow_add_eq_or_of_lt (i:=7*k) (b:=n) h d;rw[Nat.or_comm,Nat.mul_comm d,←this,Nat.add_comm]
theorem E7:qA []=[]:=rfl
theorem Cb(b:UInt8):[[T.int .u8 (b.toNat:Int)]]=qA [b]:=rfl
theorem ofNat_toNat(n:Nat):((UInt8.ofNat n).toNat:Int)=(n:Int)%256:=by simp
attribute [simp] E7
end Mx
namespace Mx
open Go
variable {M:Nat→Option Body}
theorem b_.ar(h:b_.k M)(n a b:Int):run M 101 [.c (I n),.c (I a),.c (I b)] []=some (.c (.bool (decide (a≤n)&&decide (n≤b))),[]):=by
 refine aB (b:=b_.m) h ⟨0, ?_⟩;by_cases h:a≤n
 ·have h':n≥a:=h;simp[bl,b_.m,b_.b,aa,h]
 ·have h':¬n≥a:=h;simp[bl,b_.m,b_.b,aa,h]
theorem bS.ar(h:bS.k M)(n a b:Int):run M 98 [.c (I n),.c (I a),.c (I b)] []=some (.c (.bool (decide (a≤n)&&decide (n≤b))),[]):=by
 refine aB (b:=bS.m) h ⟨0, ?_⟩;by_cases h:a≤n
 ·have h':n≥a:=h;simp[bl,bS.m,bS.b,aa,h]
 ·have h':¬n≥a:=h;simp[bl,bS.m,bS.b,aa,h]
def nP(n:Nat):List UInt8×Nat:=if n>127 then let r:=nP (n/128);(UInt8.ofNat (n%128+128)::r.1,r.2) else([],n)
termination_by n
decreasing_by omega
theorem sa{n:Nat}(h:¬n>127):nP n=([],n):=by rw[nP,if_neg h]
theorem sX{n:Nat}(h:n>127):nP n=(UInt8.ofNat (n%128+128)::(nP (n/128)).1,(nP (n/128)).2):=by rw[nP,if_pos h]
def kX(n:Nat):List UInt8:=(nP n).1++[UInt8.ofNat (nP n).2]
theorem uW:∀(k n:Nat),n<128^k→(nP n).1.length≤k:=by
 intro k
 induction k with
 |zero=>intro n h;have:n=0:=by simpa using h
        subst this;rw[sa (by omega)];simp
 |succ k ih=>
  intro n h;by_cases hc:n>127
  ·rw[sX hc];have:=ih (n/128) (by rw[Nat.pow_succ] at h;omega);simp;omega
  ·rw[sa hc];simp
theorem lj{n:Nat}(h:n≤9223372036854775807):(kX n).length≤10:=by
 have:=uW 9 n (by omega);simp[kX];omega
def DA(a b c:Nat)(s:Nat×List UInt8)(x:Nat×Nat):St:={t:=[(0,.c (I s.1)),(b,.c (.row a x.1 0 s.2.length))],o:=[(a,⟨x.1,1,true,false,qA s.2⟩)],n:=x.2}
def FW(s:Nat×List UInt8):Prop:=s.1≤9223372036854775807∧∃k,s.1<128^k∧s.2.length+k≤20
theorem xn{n:Nat}{acc:List UInt8}(h:FW (n,acc))(hc:n>127)(b:UInt8):FW (n/128,acc++[b]):=by
 obtain⟨h1,k,h2,h3⟩:=h;simp only at h1 h2 h3;cases k with
 |zero=>simp at h2;omega
 |succ k=>exact⟨by simp only;omega,k,by simp only;rw[Nat.pow_succ] at h2;omega,by simp;omega⟩
theorem bL.ar(h:bL.k M)(n:Nat)(hn:n≤9223372036854775807):run M 99 [.c (I n)] []=some (.c (S (kX n)),[]):=by
 refine aB (b:=bL.m) h ⟨n+1, ?_⟩;obtain⟨g,hr⟩:=ji (f:=ct (run M) (n+1) bL.l0) (DA 4 3 6) FW (fun s=>s.1) (fun s=>(s.2++(nP s.1).1,(nP s.1).2))
  (fun q (m:Nat×Nat)=>(.exit 0,{t:=[(0,.c (I q.2)),(3,.c (.row 4 m.1 0 q.1.length)),(6,.c (.bool false))],o:=[(4,⟨m.1,1,true,false,qA q.1⟩)],n:=m.2}))
  (by
   rintro ⟨i,acc⟩ ⟨v,x⟩ hi;by_cases hc:i>127
   ·left;have hb:=hi.1;obtain⟨k,hk1,hk2⟩:=hi.2;simp only at hb hk1 hk2;have e1:IntKind.i64.wrap ((i:Int).tmod 128+128)=((i%128+128:Nat):Int):=by
     rw[Int.tmod_eq_emod_of_nonneg (by omega),wrap_i64 (by omega) (by omega)];omega
    have e2:IntKind.i64.wrap ((i:Int)/128)=(i:Int)/128:=wrap_i64 (by omega) (by omega);have e3:IntKind.u8.wrap ((i%128+128:Nat):Int)=((UInt8.ofNat (i%128+128)).toNat:Int):=by rw[ofNat_toNat,wrap_u8]
    have hc':(127:Int)<i:=by omega
    have e4:acc.length+1≤4294967296:=by omega
    generalize hb:UInt8.ofNat (i%128+128)=b at e3;obtain⟨y,hy⟩:∃y,ct (run M) (n+1) bL.l0 (DA 4 3 6 (i,acc) (v,x))=some (.normal,DA 4 3 6 (i/128,acc++[b]) y):=by
     simp only[aE];simp only[DA,bL.l0];simp only[Int.natCast_add,Int.natCast_emod,bR] at e1 e3;simp[hc',e1,e2,e3,e4,Cb,ab]
    refine⟨(i/128,acc++[b]),y,hy,xn hi hc b,by simp only;omega, ?_⟩;simp only[sX hc,hb,cP,List.cons_append,List.nil_append]
   ·right;have hc':¬(127:Int)<i:=by omega
    refine⟨(v,x+32), ?_,by simp⟩;simp only[sa hc,dZ];simp[DA,bL.l0,hc'])
  (n+1) (n,[]) ⟨hn,9,by simp only;omega,by simp⟩ (by simp)
 have hl:=uW 9 n (by omega);have e3:IntKind.u8.wrap ((nP n).2:Int)=((UInt8.ofNat (nP n).2).toNat:Int):=by rw[ofNat_toNat,wrap_u8]
 have e4:(nP n).1.length+1≤4294967296:=by omega
 simp only[List.nil_append] at hr;simp[DA,-List.nil_append] at hr;generalize hb:UInt8.ofNat (nP n).2=b at e3;have hv:kX n=(nP n).1++[b]:=by rw[←hb];rfl
 rw[hv];simp[bl,bL.m,bL.b,aa,hr,e3,e4,Cb,ab]
theorem IP(n:Nat)(h:n<9223372036854775808):DB .i64 (sP .i64 n 127) 128=((n%128+128:Nat):Int):=by
 have e1:=HC n 127 h (by omega);have e2:=vE (n%128) 128 (by omega) (by omega);rw[Ci] at e1;rw[IQ _ (by omega)] at e2;rw[show (127:Int)=((127:Nat):Int) from rfl,e1];exact e2
theorem eQ.ar(h:eQ.k M)(n:Nat)(hn:n≤9223372036854775807):run M 230 [.c (I n)] []=some (.ll [.c (S (if n≤1000000000 then kX n else [])),.c (.bool (decide (n≤1000000000)))],[]):=by
 have hw:=b_.ar h.2 n 0 1000000000;refine aB (b:=eQ.m) h.1 ⟨n+1, ?_⟩;by_cases hm:n≤1000000000;rotate_left
 ·have hm':¬(n:Int)≤1000000000:=by omega
  simp[hm'] at hw;simp[bl,eQ.m,eQ.b,aa,hw,hm]
 have hm':(n:Int)≤1000000000:=by omega
 simp[hm'] at hw;obtain⟨g,hr⟩:=ji (f:=ct (run M) (n+1) eQ.l0) (DA 8 4 10) FW (fun s=>s.1) (fun s=>(s.2++(nP s.1).1,(nP s.1).2))
  (fun q (m:Nat×Nat)=>(.exit 0,{t:=[(0,.c (I q.2)),(4,.c (.row 8 m.1 0 q.1.length)),(10,.c (.bool false))],o:=[(8,⟨m.1,1,true,false,qA q.1⟩)],n:=m.2}))
  (by
   rintro ⟨i,acc⟩ ⟨v,x⟩ hi;by_cases hc:i>127
   ·left;have hb:=hi.1;obtain⟨k,hk1,hk2⟩:=hi.2;simp only at hb hk1 hk2;have e1:=IP i (by omega);have e2:(i:Int).fdiv 128=((i/128:Nat):Int):=by
     rw[Int.fdiv_eq_ediv_of_nonneg _ (by omega)];omega
    have e3:IntKind.u8.wrap ((i%128+128:Nat):Int)=((UInt8.ofNat (i%128+128)).toNat:Int):=by rw[ofNat_toNat,wrap_u8]
    have hc':(127:Int)<i:=by omega
    have e4:acc.length+1≤4294967296:=by omega
    generalize hb:UInt8.ofNat (i%128+128)=b at e3;obtain⟨y,hy⟩:∃y,ct (run M) (n+1) eQ.l0 (DA 8 4 10 (i,acc) (v,x))=some (.normal,DA 8 4 10 (i/128,acc++[b]) y):=by
     simp only[aE];simp only[DA,eQ.l0];simp only[Int.natCast_add,Int.natCast_emod,bR] at e1 e3;simp[hc',e1,e2,e3,e4,Cb,ab,IntKind.bits]
    refine⟨(i/128,acc++[b]),y,hy,xn hi hc b,by simp only;omega, ?_⟩;simp only[sX hc,hb,cP,List.cons_append,List.nil_append]
   ·right;have hc':¬(127:Int)<i:=by omega
    refine⟨(v,x+32), ?_,by simp⟩;simp only[sa hc,dZ];simp[DA,eQ.l0,hc'])
  (n+1) (n,[]) ⟨hn,9,by simp only;omega,by simp⟩ (by simp)
 have hl:=uW 9 n (by omega);have e3:IntKind.u8.wrap ((nP n).2:Int)=((UInt8.ofNat (nP n).2).toNat:Int):=by rw[ofNat_toNat,wrap_u8]
 have e4:(nP n).1.length+1≤4294967296:=by omega
 simp only[List.nil_append] at hr;simp[DA,-List.nil_append] at hr;generalize hb:UInt8.ofNat (nP n).2=b at e3;have hv:kX n=(nP n).1++[b]:=by rw[←hb];rfl
 rw[hv];simp[bl,eQ.m,eQ.b,aa,hr,hw,hm,e3,e4,Cb,ab]
def qh(l:List UInt8):List UInt8:=kX l.length++l
structure mi where
 val:Int
 time:Int
 eE:Int
structure bo where
 gid:Int
 uid:Int
 flags:List mi
 text:List UInt8
structure bz where
 gid:Int
 name:List UInt8
 time:Int
 eE:Int
 next:Int
 ae:List bo
 gone:List Int
abbrev aR(r:mi):List T:=[I r.val,I r.time,I r.eE]
abbrev iZ(l:List mi):T:= .sl false 3 (l.map aR)
abbrev ah(m:bo):List T:=[I m.gid,I m.uid,iZ m.flags,S m.text]
abbrev ae(l:List bo):T:= .sl false 4 (l.map ah)
abbrev af(b:bz):List T:=[I b.gid,S b.name,I b.time,I b.eE,I b.next,ae b.ae,ints b.gone]
abbrev iv(m:bo):List T:=[I m.gid,I m.uid,.sl true 3 (m.flags.map aR),S m.text]
abbrev cd(b:bz):List T:=[I b.gid,S b.name,I b.time,I b.eE,I b.next,.sl true 4 (b.ae.map ah),.sl true 1 (az b.gone)]
theorem Hc{k:IntKind}{u:T}(h:Has (.int k) u):∃n,u= .int k n:=by cases h;exact⟨_,rfl⟩
end Mx

/-
  What more of the functions compute, each by a small evaluation; no condition beyond what each says.
-/
import Derived.Test.YtcihgbflbmhkbaaGreatMxJoc
set_option maxHeartbeats 16000000
set_option linter.unusedSimpArgs false
set_option linter.unusedVariables false
namespace Mx
open Go
def gU.l0:C:= .seq (.ak [Q 17 (.bin .lss (.t 16) (.t 15))] [4,6,7,14,15,16,17] [4,6])
 (.seq (.cond (.t 17) (.skip) (.exit 0))
 (.seq (.block 1 (.seq (.ak [Qa 18 5 14 16,QL 19 5 18,Q 9 (.alloc [.int .i64 0,.int .i64 0,.int .i64 0,.int .i64 0,.str ⟨#[]⟩]),Qs 5 9 19] [4,6,7,9,14,15,16] [4,6,9])
 (.seq (.shut [] (.ak [QL 21 4 6,QL 22 5 9,Q 23 (.call 469 [.t 21,.t 22] [] []),Qm 20 23,Qx 24 0 20,Qx 25 1 20,Q 10 (.alloc [.int .i64 0,.int .i64 0,.aK 7,.aK 1]),Qs 4 10 24,Qm 11 25] [4,6,7,10,11,14,15,16] [4,6,10]))
 (.seq (.ak [QL 26 4 10,Qs 4 6 26] [4,6,7,11,14,15,16] [4,6])
 (.seq (.ak [Qm 27 11] [4,6,7,14,15,16,27] [4,6])
 (.cond (.t 27) (.ak [Qm 28 7,Q 29 (.bin .add (.t 28) (kI 1)),Qm 7 29] [4,6,7,14,15,16] [4,6]) (.skip)))))))
 (.ak [Q 30 (.bin .add (.t 16) (kI 1)),Qm 16 30] [4,6,7,14,15,16] [4,6])))
def gU.b:C:= .seq (.ak [Qv 2 0,Q 4 (.alloc [.int .i64 0,.int .i64 0,.aK 7,.aK 1]),Qi 5 0] [1,2,4] [2,4])
 (.seq (.ak [QL 12 4 2,Q 13 (.call 220 [.t 12] [] []),Q 6 (.alloc [.int .i64 0,.int .i64 0,.aK 7,.aK 1]),Qs 4 6 13] [1,4,6] [4,6])
 (.seq (.ak [Qi 7 0] [1,4,6,7] [4,6])
 (.seq (.seq (.ak [Qm 14 1,Q 15 (.len (.t 14)),Qi 16 0] [4,6,7,14,15,16] [4,6])
 (.block 0 (.loop gU.l0)))
 (.seq (.ak [QL 31 4 6,Qm 32 7,Qs 4 4 31,Qm 5 32] [4,5] [4])
 (.ret)))))
def gU.m:Fn:={np:=2,body:=gU.b,res:=[.cell 4 true 4,.tmp 5]}
def gU.k(M:Nat→Option Body):Prop:=M 451=some (.code gU.m)∧b6.k M∧cY.k M
def dy.l0:C:= .seq (.seq (.ak [Qm 12 7,Qm 13 0,Q 14 (.call 125 [.t 13,kI 10] [0] []),Q 15 (.bin .add (kI 1) (.t 14)),Q 16 (.bin .lss (.t 12) (.t 15))] [0,1,5,6,7,16] [0,5,11,35])
 (.cond (.t 16) (.skip) (.exit 0)))
 (.seq (.block 1 (.seq (.ak [Qm 19 0,QL 20 4 5,Qm 21 1,Q 22 (.bin .mul (kI 100) (.t 21)),Qm 23 7,Q 24 (.bin .add (.t 22) (.t 23)),Q 25 (.call 519 [.t 19,.t 20,.t 24] [0] []),
   Q 8 (.alloc [.int .i64 0,.int .i64 0,.int .i64 0,.int .i64 0,.str ⟨#[]⟩]),Qs 5 8 25] [0,1,5,6,7,8] [0,5,8,11,35])
 (.seq (.ak [QL 27 4 5,QL 28 5 8,Q 29 (.call 468 [.t 27,.t 28] [] []),Qm 26 29,Qx 30 0 26,Qx 31 1 26,Qs 4 5 30] [0,1,5,6,7,8] [0,5,8,11,35])
 (.ak [Qm 32 6,QL 33 5 8,Q 34 (.bM 5 1 [.int .i64 0,.int .i64 0,.int .i64 0,.int .i64 0,.str ⟨#[]⟩] [(0,.t 33)]),Q 35 (.app 5 48 (.t 32) (.t 34)),Qm 6 35] [0,1,5,6,7] [0,5,11,35]))))
 (.ak [Qm 17 7,Q 18 (.bin .add (.t 17) (kI 1)),Qm 7 18] [0,1,5,6,7] [0,5,11,35]))
def dy.b:C:= .seq (.ak [Q 4 (.nil 5)] [0,1] [0])
 (.seq (.ak [Qm 9 1,Q 10 (.call 113 [.t 9] [] []),Q 5 (.alloc [.int .i64 0,.int .i64 0,.aK 7,.aK 1]),Qs 4 5 10] [0,1,5] [0,5])
 (.seq (.ak [Q 11 (.bM 5 0 [.int .i64 0,.int .i64 0,.int .i64 0,.int .i64 0,.str ⟨#[]⟩] []),Qm 6 11] [0,1,5,6] [0,5,11,35])
 (.seq (.seq (.ak [Qi 7 0] [0,1,5,6,7] [0,5,11,35])
 (.block 0 (.loop dy.l0)))
 (.seq (.ak [Qm 36 6,Qm 4 36] [4] [0,4,11,35])
 (.ret)))))
def dy.m:Fn:={np:=2,body:=dy.b,res:=[.tmp 4]}
def dy.k(M:Nat→Option Body):Prop:=M 516=some (.code dy.m)∧fI.k M∧bu.k M∧cF.k M∧bB.k M
def gQ.b:C:= .seq (.ak [Q 2 (.alloc [.int .i64 0,.int .i64 0,.aK 7,.aK 1])] [0,2] [2])
 (.seq (.ak [Qm 3 0,Q 4 (.build [.int .i64 0,.int .i64 0,.aK 7,.aK 1] [(0,1,.t 3)]),Qs 4 2 4] [2] [2])
 (.ret))
def gQ.m:Fn:={np:=1,body:=gQ.b,res:=[.cell 2 true 4]}
def gQ.k(M:Nat→Option Body):Prop:=M 114=some (.code gQ.m)
def jd.b:C:= .seq (.ak [Q 2 (.alloc [.int .i64 0,.int .i64 0,.aK 7,.aK 1,.str ⟨#[]⟩,.int .i64 0])] [0,2] [2])
 (.seq (.ak [Qm 3 0,Q 4 (.call 113 [.t 3] [] []),Q 5 (.build [.int .i64 0,.int .i64 0,.aK 7,.aK 1,.str ⟨#[]⟩,.int .i64 0] [(0,4,.t 4)]),Qs 6 2 5] [2] [2])
 (.ret))
def jd.m:Fn:={np:=1,body:=jd.b,res:=[.cell 2 true 6]}
def jd.k(M:Nat→Option Body):Prop:=M 24=some (.code jd.m)∧fI.k M
def fo.l0:C:= .seq (.ak [Q 25 (.bin .lss (.t 24) (.t 23))] [6,7,22,23,24,25] [17,41])
 (.seq (.cond (.t 25) (.skip) (.exit 0))
 (.seq (.block 1 (.seq (.ak [Qa 26 1 22 24,Ql 27 26,Qm 9 27] [6,7,9,22,23,24] [17,41])
 (.seq (.ak [Qm 29 9,Q 30 (.call 65 [.t 29] [] []),Qm 28 30,Qx 31 0 28,Qx 32 1 28,Q 10 (.alloc [.int .i64 0,.int .i64 0,.int .i64 0,.int .i64 0,.str ⟨#[]⟩]),Qs 5 10 31,Qm 11 32] [6,7,10,11,22,23,24] [10,17,41])
 (.seq (.ak [Qm 33 7,Qm 34 33,Qg 35 (.mv (.t 11)) 34 true,Q 36 (.pick (.t 34) (.t 35) (kB false)),Qm 7 36] [6,7,10,11,22,23,24] [10,17,41])
 (.seq (.ak [Qm 37 11] [6,7,10,22,23,24,37] [10,17,41])
 (.cond (.t 37) (.ak [Qm 38 6,QL 39 5 10,Q 40 (.bM 5 1 [.int .i64 0,.int .i64 0,.int .i64 0,.int .i64 0,.str ⟨#[]⟩] [(0,.t 39)]),Q 41 (.app 5 48 (.t 38) (.t 40)),Qm 6 41] [6,7,22,23,24] [17,41]) (.skip)))))))
 (.ak [Q 42 (.bin .add (.t 24) (kI 1)),Qm 24 42] [6,7,22,23,24] [17,41])))
def fo.b:C:= .seq (.ak [Q 2 (.nil 5),Qb 3 false] [0] [])
 (.seq (.ak [Qm 13 0,Q 14 (.call 13 [.t 13] [] []),Qm 12 14,Qx 15 0 12,Qx 16 1 12,Qm 4 15,Qm 5 16] [0,4,5] [])
 (.seq (.ak [Q 17 (.bM 5 0 [.int .i64 0,.int .i64 0,.int .i64 0,.int .i64 0,.str ⟨#[]⟩] []),Qm 6 17] [0,4,5,6] [17,41])
 (.seq (.ak [Qm 18 5,Qm 19 0,Q 20 (.j0 (.t 19)),Q 21 (.bin .eql (.t 18) (.t 20)),Qm 7 21] [4,6,7] [17,41])
 (.seq (.seq (.ak [Qm 22 4,Q 23 (.len (.t 22)),Qi 24 0] [6,7,22,23,24] [17,41])
 (.block 0 (.loop fo.l0)))
 (.seq (.ak [Qm 43 6,Qm 44 7,Qm 2 43,Qm 3 44] [2,3] [2,17,41])
 (.ret))))))
def fo.m:Fn:={np:=1,body:=fo.b,res:=[.tmp 2,.tmp 3]}
def fo.k(M:Nat→Option Body):Prop:=M 450=some (.code fo.m)∧cR.k M∧ff.k M
def iE.b:C:= .seq (.ak [Qv 1 0,Q 2 (.alloc [.int .i64 0,.int .i64 0,.aK 7,.aK 1,.str ⟨#[]⟩,.int .i64 0])] [1,2] [1,2])
 (.seq (.ak [Qf 3 0 1,QL 4 4 3,Q 5 (.call 220 [.t 4] [] []),Qf 6 0 1,Qs 4 6 5] [1,2] [1,2])
 (.seq (.ak [QL 7 6 1,Qs 6 2 7] [2] [2])
 (.ret)))
def iE.m:Fn:={np:=1,body:=iE.b,res:=[.cell 2 true 6]}
def iE.k(M:Nat→Option Body):Prop:=M 138=some (.code iE.m)∧b6.k M
def iF.b:C:= .seq (.ak [Qv 1 0,Q 2 (.alloc [.int .i64 0,.int .i64 0,.aK 7,.aK 1,.str ⟨#[]⟩,.int .i64 0])] [1,2] [1,2])
 (.seq (.ak [QL 4 6 1,Q 5 (.call 138 [.t 4] [] []),Q 3 (.alloc [.int .i64 0,.int .i64 0,.aK 7,.aK 1,.str ⟨#[]⟩,.int .i64 0]),Qs 6 3 5] [1,2,3] [1,2,3])
 (.seq (.ak [Qf 6 4 1,Ql 7 6,Q 8 (.j0 (.t 7)),Qf 9 5 3,Qs 1 9 8] [2,3] [2,3])
 (.seq (.ak [QL 10 6 3,Qs 6 2 10] [2] [2])
 (.ret))))
def iF.m:Fn:={np:=1,body:=iF.b,res:=[.cell 2 true 6]}
def iF.k(M:Nat→Option Body):Prop:=M 51=some (.code iF.m)∧iE.k M
def cX.b:C:= .seq (.ak [Qv 2 0,Q 4 (.alloc [.int .i64 0,.int .i64 0,.aK 7,.aK 1,.str ⟨#[]⟩,.int .i64 0])] [1,2,4] [2,4])
 (.seq (.ak [Qf 13 5 2,Ql 14 13,Qm 5 14] [1,2,4,5] [2,4])
 (.seq (.seq (.ak [Qm 15 5,Qf 16 4 2,Ql 17 16,Q 18 (.j0 (.t 17)),Q 19 (.call 101 [.t 15,kI 0,.t 18] [] []),Q 20 (.not (.t 19))] [1,2,4,5,20] [2,4])
 (.cond (.t 20) (.ak [Qi 5 0] [1,2,4,5] [2,4]) (.skip)))
 (.seq (.ak [Qf 21 4 2,Ql 22 21,Qm 23 5,Qm 24 1,Q 25 (.max (kI 0) (.t 24)),Qf 26 4 2,Ql 27 26,Q 28 (.j0 (.t 27)),Qm 29 5,Q 30 (.bin .sub (.t 28) (.t 29)),Q 31 (.min (.t 25) (.t 30)),
   Q 32 (.bin .add (.t 23) (.t 31)),Q 33 (.oj (.t 22) none (some (.t 32))),Qm 6 33] [2,4,6] [2,4])
 (.seq (.ak [Qm 35 6,Q 36 (.call 13 [.t 35] [] []),Qm 34 36,Qx 37 0 34,Qx 38 1 34,Qm 7 37,Qm 8 38] [2,4,6,8] [2,4])
 (.seq (.ak [Qm 39 6,Qm 40 8,Q 41 (.oj (.t 39) none (some (.t 40))),Qm 6 41] [2,4,6] [2,4])
 (.seq (.ak [Qm 43 6,Q 44 (.call 450 [.t 43] [] []),Qm 42 44,Qx 45 0 42,Qx 46 1 42,Qm 9 45,Qm 10 46] [2,4,6,9] [2,4])
 (.seq (.ak [Qf 48 0 2,Qf 49 0 48,Ql 50 49,Q 51 (.call 114 [.t 50] [] []),Qm 52 9,Q 53 (.call 451 [.t 51,.t 52] [] []),Qm 47 53,Qx 54 0 47,Qx 55 1 47,
   Q 11 (.alloc [.int .i64 0,.int .i64 0,.aK 7,.aK 1]),Qs 4 11 54,Qm 12 55] [4,6,11] [4,11])
 (.seq (.ak [QL 56 4 11,Qm 57 6,Qm 58 6,Q 59 (.j0 (.t 58)),
   Q 60 (.build [.int .i64 0,.int .i64 0,.aK 7,.aK 1,.str ⟨#[]⟩,.int .i64 0] [(0,4,.t 56),(4,1,.t 57),(5,1,.t 59)]),Qs 6 4 60] [4] [4])
 (.ret)))))))))
def cX.m:Fn:={np:=2,body:=cX.b,res:=[.cell 4 true 6]}
def cX.k(M:Nat→Option Body):Prop:=M 506=some (.code cX.m)∧cR.k M∧bV.k M∧gQ.k M∧fo.k M∧gU.k M
def ik.b:C:= .seq (.ak [Qv 1 0,Qb 2 false] [1] [1])
 (.seq (.ak [Qf 8 4 1,Ql 9 8,Q 10 (.call 450 [.t 9] [] []),Qm 7 10,Qx 11 0 7,Qx 12 1 7,Qm 3 11,Qm 4 12] [1,3,4] [1])
 (.seq (.seq (.ak [Qm 13 4,Q 14 (.not (.t 13)),Qm 15 14,Qg 16 (.bC 0 (.t 1)) 15 false,Qg 17 (.load true 4 (.t 16)) 15 false,Qg 18 (.call 150 [.t 17] [] []) 15 false,
   Qg 19 (.not (.t 18)) 15 false,Q 20 (.pick (.t 15) (kB true) (.t 19)),Qm 21 20,Qg 22 (.bC 5 (.t 1)) 21 false,Qg 23 (.load false 1 (.t 22)) 21 false,
   Qg 24 (.bC 4 (.t 1)) 21 false,Qg 25 (.load false 1 (.t 24)) 21 false,Qg 26 (.j0 (.t 25)) 21 false,Qg 27 (.call 101 [.t 23,kI 0,.t 26] [] []) 21 false,
   Qg 28 (.not (.t 27)) 21 false,Q 29 (.pick (.t 21) (kB true) (.t 28))] [1,3,29] [1])
 (.cond (.t 29) (.seq (.ak [Qb 2 false] [2] [])
 (.ret)) (.skip)))
 (.seq (.ak [Qf 31 0 1,Qf 32 0 31,Ql 33 32,Q 34 (.call 114 [.t 33] [] []),Qm 35 3,Q 36 (.call 451 [.t 34,.t 35] [] []),Qm 30 36,Qx 37 0 30,Qx 38 1 30,
   Q 5 (.alloc [.int .i64 0,.int .i64 0,.aK 7,.aK 1]),Qs 4 5 37,Qm 6 38] [1,5] [1,5])
 (.seq (.ak [QL 39 4 5,Qf 40 0 1,QL 41 4 40,Q 42 (.call 63 [.t 39,.t 41] [] []),Qm 2 42] [2] [])
 (.ret)))))
def ik.m:Fn:={np:=1,body:=ik.b,res:=[.tmp 2]}
def ik.k(M:Nat→Option Body):Prop:=M 435=some (.code ik.m)∧gY.k M∧bV.k M∧gQ.k M∧aJ.k M∧fo.k M∧gU.k M
def gB.b:C:= .seq (.ak [Qv 3 1,Qb 4 false] [0,3] [0,3])
 (.seq (.gw [Qm 12 0,Q 13 (.j5 (.t 12)),Qf 14 0 13,QL 15 4 14,QL 16 5 3,Q 17 (.call 468 [.t 15,.t 16] [] []),Qm 11 17,Qx 18 0 11,Qx 19 1 11,
   Q 5 (.alloc [.int .i64 0,.int .i64 0,.aK 7,.aK 1]),Qs 4 5 18,Qm 6 19] [[],[0],[0,1],[0,1,2],[],lr 5,lr 6,lr 7,lr 7,[],lr 8++[9],lr 11] [0,3,5,6] [0,3,5])
 (.seq (.ak [QL 21 5 3,Q 22 (.call 67 [.t 21] [] []),Qm 20 22,Qx 23 0 20,Qx 24 1 20,Qm 7 23,Qm 8 24] [0,5,6,7,8] [0,5])
 (.seq (.ak [Qm 26 7,Q 27 (.call 10 [.t 26] [] []),Qm 25 27,Qx 28 0 25,Qx 29 1 25,Qm 9 28,Qm 10 29] [0,5,6,8,9,10] [0,5])
 (.seq (.seq (.ak [Qm 30 6,Q 31 (.not (.t 30)),Qm 32 31,Qg 33 (.mv (.t 8)) 32 false,Qg 34 (.not (.t 33)) 32 false,Q 35 (.pick (.t 32) (kB true) (.t 34)),Qm 36 35,Qg 37 (.mv (.t 10)) 36 false,
   Qg 38 (.not (.t 37)) 36 false,Q 39 (.pick (.t 36) (kB true) (.t 38)),Qm 40 39,Qg 41 (.mv (.t 9)) 40 false,Qg 42 (.j0 (.t 41)) 40 false,Qg 43 (.mv (.t 0)) 40 false,
   Qg 44 (.j5 (.t 43)) 40 false,Qg 45 (.bC 4 (.t 44)) 40 false,Qg 46 (.load false 1 (.t 45)) 40 false,Qg 47 (.j0 (.t 46)) 40 false,
   Qg 48 (.bin .sub (kI 20000) (.t 47)) 40 false,Qg 49 (.bin .gtr (.t 42) (.t 48)) 40 false,Q 50 (.pick (.t 40) (kB true) (.t 49))] [0,5,9,50] [0,5])
 (.cond (.t 50) (.seq (.ak [Qb 4 false] [4] [0])
 (.ret)) (.skip)))
 (.seq (.ak [Qm 51 0,QL 52 4 5,Q 53 (.j5 (.t 51)),Qf 54 0 53,Qs 4 54 52] [0,9] [0])
 (.seq (.ak [Qm 55 0,Qm 56 0,Q 57 (.j5 (.t 56)),Qf 58 4 57,Ql 59 58,Qm 60 9,Q 61 (.bin .add (.t 59) (.t 60)),Q 62 (.j5 (.t 55)),Qf 63 4 62,Qs 1 63 61] [] [0])
 (.seq (.ak [Qb 4 true] [4] [0])
 (.ret))))))))
def gB.m:Fn:={np:=2,body:=gB.b,res:=[.tmp 4]}
def gB.k(M:Nat→Option Body):Prop:=M 518=some (.code gB.m)∧fF.k M∧gN.k M∧cF.k M
def fi.l0:C:= .seq (.seq (.ak [Qm 18 7,Qm 19 6,Q 20 (.len (.t 19)),Q 21 (.bin .lss (.t 18) (.t 20))] [2,4,5,6,7,21] [0,2,5])
 (.cond (.t 21) (.skip) (.exit 0)))
 (.seq (.block 1 (.seq (.shut [] (.ak [Qm 24 6,Qm 25 7,Qa 26 5 24 25,QL 27 5 26,Q 28 (.call 518 [.t 5,.t 27] [0] [])] [2,4,5,6,7] [0,2,5]))
 (.seq (.ak [Qm 29 7,Qm 30 4,Q 31 (.bin .eql (.t 29) (.t 30))] [2,4,5,6,7,31] [0,2,5])
 (.cond (.t 31) (.ak [Qf 32 4 5,Ql 33 32,Q 34 (.j0 (.t 33)),Qf 35 5 5,Qs 1 35 34] [2,4,5,6,7] [0,2,5]) (.skip)))))
 (.ak [Qm 22 7,Q 23 (.bin .add (.t 22) (kI 1)),Qm 7 23] [2,4,5,6,7] [0,2,5]))
def fi.b:C:= .seq (.ak [Q 2 (.alloc [.int .i64 0,.int .i64 0,.aK 7,.aK 1,.str ⟨#[]⟩,.int .i64 0])] [0,2] [0,2])
 (.seq (.ak [Qm 8 0,Q 9 (.call 125 [.t 8,kI 2] [0] []),Q 10 (.bin .add (kI 1) (.t 9)),Qm 3 10] [0,2,3] [0,2])
 (.seq (.ak [Qm 11 0,Q 12 (.call 125 [.t 11,kI 12] [0] []),Qm 4 12] [0,2,3,4] [0,2])
 (.seq (.ak [Qm 13 3,Q 14 (.call 24 [.t 13] [] []),Q 5 (.alloc [.int .i64 0,.int .i64 0,.aK 7,.aK 1,.str ⟨#[]⟩,.int .i64 0]),Qs 6 5 14] [0,2,3,4,5] [0,2,5])
 (.seq (.ak [Qm 15 0,Qm 16 3,Q 17 (.call 516 [.t 15,.t 16] [0] []),Qm 6 17] [2,4,5,6] [0,2,5])
 (.seq (.seq (.ak [Qi 7 0] [2,4,5,6,7] [0,2,5])
 (.block 0 (.loop fi.l0)))
 (.seq (.ak [QL 36 6 5,Qs 6 2 36] [2] [0,2])
 (.ret)))))))
def fi.m:Fn:={np:=1,body:=fi.b,res:=[.cell 2 true 6]}
def fi.k(M:Nat→Option Body):Prop:=M 515=some (.code fi.m)∧jd.k M∧bu.k M∧dy.k M∧gB.k M
def iD.b:C:= .seq (.ak [Q 2 (.alloc [.int .i64 0,.int .i64 0,.aK 7,.aK 1,.str ⟨#[]⟩,.int .i64 0])] [0,2] [2])
 (.seq (.ak [Qm 3 0,Q 4 (.call 124 [.t 3] [] [(0,10400)]),Q 5 (.call 515 [.t 4] [0] []),Qs 6 2 5] [2] [2])
 (.ret))
def iD.m:Fn:={np:=1,body:=iD.b,res:=[.cell 2 true 6]}
def iD.k(M:Nat→Option Body):Prop:=M 505=some (.code iD.m)∧fP.k M∧fi.k M
def jr.b:C:= .seq (.ak [Qv 2 0,Qv 3 1,Qb 4 false] [2,3] [2,3])
 (.seq (.ak [Qf 5 0 2,QL 6 4 5,Qf 7 0 3,QL 8 4 7,Q 9 (.call 421 [.t 6,.t 8] [] []),Qm 10 9,Qg 11 (.bC 4 (.t 2)) 10 true,Qg 12 (.load false 1 (.t 11)) 10 true,
   Qg 13 (.bC 4 (.t 3)) 10 true,Qg 14 (.load false 1 (.t 13)) 10 true,Qg 15 (.bin .eql (.t 12) (.t 14)) 10 true,Q 16 (.pick (.t 10) (.t 15) (kB false)),Qm 17 16,
   Qg 18 (.bC 5 (.t 2)) 17 true,Qg 19 (.load false 1 (.t 18)) 17 true,Qg 20 (.bC 5 (.t 3)) 17 true,Qg 21 (.load false 1 (.t 20)) 17 true,
   Qg 22 (.bin .eql (.t 19) (.t 21)) 17 true,Q 23 (.pick (.t 17) (.t 22) (kB false)),Qm 4 23] [4] [])
 (.ret))
def jr.m:Fn:={np:=2,body:=jr.b,res:=[.tmp 4]}
def jr.k(M:Nat→Option Body):Prop:=M 507=some (.code jr.m)∧fV.k M
def eM.b:C:= .seq (.ak [Qb 2 false] [0] [])
 (.seq (.seq (.ak [Qm 7 0,Q 8 (.call 36 [.t 7] [] [])] [0,8] [])
 (.cond (.t 8) (.seq (.ak [Qb 2 true] [2] [])
 (.ret)) (.skip)))
 (.seq (.ak [Qm 9 0,Q 10 (.call 505 [.t 9] [] []),Q 3 (.alloc [.int .i64 0,.int .i64 0,.aK 7,.aK 1,.str ⟨#[]⟩,.int .i64 0]),Qs 6 3 10] [0,3] [3])
 (.seq (.ak [Qm 11 0,Q 12 (.call 40 [.t 11] [] []),Q 13 (.lH 1 (.t 12) (kI 0)),Ql 14 13,Q 15 (.bin .rem (.t 14) (kI 900)),Qm 4 15] [3,4] [3])
 (.seq (.ak [QL 16 6 3,Qm 17 4,Q 18 (.call 506 [.t 16,.t 17] [] []),Q 5 (.alloc [.int .i64 0,.int .i64 0,.aK 7,.aK 1,.str ⟨#[]⟩,.int .i64 0]),Qs 6 5 18] [3,5] [3,5])
 (.seq (.seq (.gw [Qf 19 4 5,Ql 20 19,Q 21 (.j0 (.t 20)),Qf 22 5 3,Ql 23 22,Q 24 (.bin .lss (.t 21) (.t 23)),Qm 25 24,Qg 26 (.bC 4 (.t 5)) 25 false,Qg 27 (.load false 1 (.t 26)) 25 false,
   Qg 28 (.j0 (.t 27)) 25 false,Qg 29 (.bC 4 (.t 3)) 25 false,Qg 30 (.load false 1 (.t 29)) 25 false,Qg 31 (.j0 (.t 30)) 25 false,Qg 32 (.bin .gtr (.t 28) (.t 31)) 25 false,
   Q 33 (.pick (.t 25) (kB true) (.t 32)),Qm 34 33,Qg 35 (.bC 4 (.t 5)) 34 false,Qg 36 (.load false 1 (.t 35)) 34 false,Qg 37 (.bC 4 (.t 3)) 34 false,
   Qg 38 (.load false 1 (.t 37)) 34 false,Qg 39 (.bC 4 (.t 5)) 34 false,Qg 40 (.load false 1 (.t 39)) 34 false,Qg 41 (.j0 (.t 40)) 34 false,
   Qg 42 (.oj (.t 38) none (some (.t 41))) 34 false,Qg 43 (.bin .neq (.t 36) (.t 42)) 34 false,Q 44 (.pick (.t 34) (kB true) (.t 43))] [[],[0],[0,1],[],[3],lr 5,lr 6,lr 7,lr 8,lr 9,lr 7,lr 7++[10],lr 7++[10,11],lr 13,lr 14,lr 15,lr 16,lr 17,lr 16,lr 16++[18],lr 16,lr 16++[20],lr 16++[20,21],lr 16++[18,19,20,21,22],lr 24,lr 25] [3,5,44] [3,5])
 (.cond (.t 44) (.seq (.ak [Qb 2 false] [2] [])
 (.ret)) (.skip)))
 (.seq (.ak [QL 45 6 3,Q 46 (.call 51 [.t 45] [] []),Q 47 (.call 506 [.t 46,kI 0] [] []),Q 6 (.alloc [.int .i64 0,.int .i64 0,.aK 7,.aK 1,.str ⟨#[]⟩,.int .i64 0]),Qs 6 6 47] [3,5,6] [3,5,6])
 (.seq (.gw [QL 48 6 3,Q 49 (.call 435 [.t 48] [] []),Qm 50 49,Qg 51 (.load true 6 (.t 5)) 50 true,Qg 52 (.call 435 [.t 51] [] []) 50 true,Q 53 (.pick (.t 50) (.t 52) (kB false)),Qm 54 53,
   Qg 55 (.bC 0 (.t 6)) 54 true,Qg 56 (.load true 4 (.t 55)) 54 true,Qg 57 (.bC 0 (.t 3)) 54 true,Qg 58 (.load true 4 (.t 57)) 54 true,
   Qg 59 (.call 421 [.t 56,.t 58] [] []) 54 true,Q 60 (.pick (.t 54) (.t 59) (kB false)),Qm 61 60,Qg 62 (.load true 6 (.t 5)) 61 true,
   Qg 63 (.call 506 [.t 62,kI 5] [] []) 61 true,Qg 64 (.load true 6 (.t 5)) 61 true,Qg 65 (.call 507 [.t 63,.t 64] [] []) 61 true,Q 66 (.pick (.t 61) (.t 65) (kB false)),
   Qm 67 66,Qg 68 (.bC 4 (.t 6)) 67 true,Qg 69 (.load false 1 (.t 68)) 67 true,Qg 70 (.bC 4 (.t 3)) 67 true,Qg 71 (.load false 1 (.t 70)) 67 true,
   Qg 72 (.bin .eql (.t 69) (.t 71)) 67 true,Q 73 (.pick (.t 67) (.t 72) (kB false)),Qm 2 73] [[],[0],[0,1],[0,1,2],lr 4,lr 5,lr 6,lr 7,lr 8,lr 7,lr 7++[9],lr 11,lr 12,lr 13,lr 14,lr 15,lr 14,lr 17,lr 18,lr 19,lr 20,lr 21,lr 20,lr 20++[22],lr 24,lr 25,lr 26] [2] [])
 (.ret))))))))
def eM.m:Fn:={np:=1,body:=eM.b,res:=[.tmp 2]}
def eM.k(M:Nat→Option Body):Prop:=M 498=some (.code eM.m)∧lF.k M∧cV.k M∧iF.k M∧fV.k M∧ik.k M∧iD.k M∧cX.k M∧jr.k M
theorem wrap_u8(x:Int):IntKind.u8.wrap x=x%256:=by
 unfold IntKind.wrap;simp[IntKind.bits,IntKind.signed]
theorem wrap_u32(x:Int):IntKind.u32.wrap x=x%4294967296:=by
 unfold IntKind.wrap;simp[IntKind.bits,IntKind.signed]
theorem wQ(k:IntKind)(x y:Int):uG k x y=k.wrap (((x%((2^k.bits:Nat):Int)).toNat&&&(y%((2^k.bits:Nat):Int)).toNat:Nat):Int):=by
 unfold uG;rw[BitVec.toNat_and,BitVec.toNat_ofInt,BitVec.toNat_ofInt]
theorem K5(k:IntKind)(x y:Int):FH k x y=k.wrap (((x%((2^k.bits:Nat):Int)).toNat|||(y%((2^k.bits:Nat):Int)).toNat:Nat):Int):=by
 unfold FH;rw[BitVec.toNat_or,BitVec.toNat_ofInt,BitVec.toNat_ofInt]
theorem JS(n m:Nat)(hn:n<9223372036854775808)(hm:m<9223372036854775808):uG .i64 n m=((n&&&m:Nat):Int):=by
 rw[wQ];have e:∀k:Nat,k<9223372036854775808→((k:Int)%((2^IntKind.i64.bits:Nat):Int)).toNat=k:=by
  intro k hk;show ((k:Int)%18446744073709551616).toNat=k;omega
 rw[e n hn,e m hm];have:n&&&m≤n:=Nat.and_le_left;exact wrap_i64 (by omega) (by omega)
theorem xA(n m:Nat)(hn:n<9223372036854775808)(hm:m<9223372036854775808):FH .i64 n m=((n|||m:Nat):Int):=by
 rw[K5];have e:∀k:Nat,k<9223372036854775808→((k:Int)%((2^IntKind.i64.bits:Nat):Int)).toNat=k:=by
  intro k hk;show ((k:Int)%18446744073709551616).toNat=k;omega
 rw[e n hn,e m hm];have:n|||m<2^63:=Nat.or_lt_two_pow (by omega) (by omega)
 exact wrap_i64 (by omega) (by omega)
theorem LF(n m:Nat)(hn:n<256)(hm:m<256):uG .u8 n m=((n&&&m:Nat):Int):=by
 rw[wQ];have e:∀k:Nat,k<256→((k:Int)%((2^IntKind.u8.bits:Nat):Int)).toNat=k:=by
  intro k hk;show ((k:Int)%256).toNat=k;omega
 rw[e n hn,e m hm,wrap_u8];have:n&&&m≤n:=Nat.and_le_left;omega
theorem D8(n:Nat):n&&&127=n%128:=Nat.and_two_pow_sub_one_eq_mod n 7
theorem K4(n:Nat)(h:n<128):n|||128=n+128:=by
 have:=Nat.two_pow_add_eq_or_of_lt (i:=7) (b:=n) h 1;rw[Nat.or_comm];have e:2^7*1=128:=by decide
 rw[e] at this;omega
theorem IG(n d k:Nat)(h:n<128^k):n|||d*128^k=n+d*128^k:=by
 have e:(128:Nat)^k=2^(7*k):=by rw[show (128:Nat)=2^7 by decide,←Nat.pow_mul]
 rw[e] at h ⊢;have:=Nat.two_pow_add_eq_or_of_lt (i:=7*k) (b:=n) h d;rw[Nat.or_comm,Nat.mul_comm d,←this,Nat.add_comm]
theorem Hi:sm []=[]:=rfl
theorem D1(b:UInt8):[[T.int .u8 (b.toNat:Int)]]=sm [b]:=rfl
theorem ofNat_toNat(n:Nat):((UInt8.ofNat n).toNat:Int)=(n:Int)%256:=by simp
attribute [simp] Hi
end Mx
namespace Mx
open Go
variable {M:Nat→Option Body}
theorem bV.al(h:bV.k M)(n a b:Int):run M 101 [.c (I n),.c (I a),.c (I b)] []=some (.c (.bool (decide (a≤n)&&decide (n≤b))),[]):=by
 refine aA (b:=bV.m) h ⟨0, ?_⟩;by_cases h:a≤n
 ·have h':n≥a:=h;simp[ba,bV.m,bV.b,ab,h]
 ·have h':¬n≥a:=h;simp[ba,bV.m,bV.b,ab,h]
theorem bR.al(h:bR.k M)(n a b:Int):run M 98 [.c (I n),.c (I a),.c (I b)] []=some (.c (.bool (decide (a≤n)&&decide (n≤b))),[]):=by
 refine aA (b:=bR.m) h ⟨0, ?_⟩;by_cases h:a≤n
 ·have h':n≥a:=h;simp[ba,bR.m,bR.b,ab,h]
 ·have h':¬n≥a:=h;simp[ba,bR.m,bR.b,ab,h]
def o5(n:Nat):List UInt8×Nat:=if n>127 then let r:=o5 (n/128);(UInt8.ofNat (n%128+128)::r.1,r.2) else([],n)
termination_by n
decreasing_by omega
theorem rM{n:Nat}(h:¬n>127):o5 n=([],n):=by rw[o5,if_neg h]
theorem sw{n:Nat}(h:n>127):o5 n=(UInt8.ofNat (n%128+128)::(o5 (n/128)).1,(o5 (n/128)).2):=by rw[o5,if_pos h]
def gE(n:Nat):List UInt8:=(o5 n).1++[UInt8.ofNat (o5 n).2]
theorem rN:∀(k n:Nat),n<128^k→(o5 n).1.length≤k:=by
 intro k
 induction k with
 |zero=>intro n h;have:n=0:=by simpa using h
        subst this;rw[rM (by omega)];simp
 |succ k ih=>
  intro n h;by_cases hc:n>127
  ·rw[sw hc];have:=ih (n/128) (by rw[Nat.pow_succ] at h;omega);simp;omega
  ·rw[rM hc];simp
theorem jc{n:Nat}(h:n≤9223372036854775807):(gE n).length≤10:=by
 have:=rN 9 n (by omega);simp[gE];omega
def FG(a b c:Nat)(s:Nat×List UInt8)(x:Nat×Nat):St:={t:=[(0,.c (I s.1)),(b,.c (.row a x.1 0 s.2.length))],o:=[(a,⟨x.1,1,true,false,sm s.2⟩)],n:=x.2}
def H8(s:Nat×List UInt8):Prop:=s.1≤9223372036854775807∧∃k,s.1<128^k∧s.2.length+k≤20
theorem yY{n:Nat}{acc:List UInt8}(h:H8 (n,acc))(hc:n>127)(b:UInt8):H8 (n/128,acc++[b]):=by
 obtain⟨h1,k,h2,h3⟩:=h;simp only at h1 h2 h3;cases k with
 |zero=>simp at h2;omega
 |succ k=>exact⟨by simp only;omega,k,by simp only;rw[Nat.pow_succ] at h2;omega,by simp;omega⟩
theorem bH.al(h:bH.k M)(n:Nat)(hn:n≤9223372036854775807):run M 99 [.c (I n)] []=some (.c (S (gE n)),[]):=by
 refine aA (b:=bH.m) h ⟨n+1, ?_⟩;obtain⟨g,hr⟩:=jS (f:=ct (run M) (n+1) bH.l0) (FG 4 3 6) H8 (fun s=>s.1) (fun s=>(s.2++(o5 s.1).1,(o5 s.1).2))
  (fun q (m:Nat×Nat)=>(.exit 0,{t:=[(0,.c (I q.2)),(3,.c (.row 4 m.1 0 q.1.length)),(6,.c (.bool false))],o:=[(4,⟨m.1,1,true,false,sm q.1⟩)],n:=m.2}))
  (by
   rintro ⟨i,acc⟩ ⟨v,x⟩ hi;by_cases hc:i>127
   ·left;have hb:=hi.1;obtain⟨k,hk1,hk2⟩:=hi.2;simp only at hb hk1 hk2;have e1:IntKind.i64.wrap ((i:Int).tmod 128+128)=((i%128+128:Nat):Int):=by
     rw[Int.tmod_eq_emod_of_nonneg (by omega),wrap_i64 (by omega) (by omega)];omega
    have e2:IntKind.i64.wrap ((i:Int)/128)=(i:Int)/128:=wrap_i64 (by omega) (by omega);have e3:IntKind.u8.wrap ((i%128+128:Nat):Int)=((UInt8.ofNat (i%128+128)).toNat:Int):=by rw[ofNat_toNat,wrap_u8]
    have hc':(127:Int)<i:=by omega
    have e4:acc.length+1≤4294967296:=by omega
    generalize hb:UInt8.ofNat (i%128+128)=b at e3;obtain⟨y,hy⟩:∃y,ct (run M) (n+1) bH.l0 (FG 4 3 6 (i,acc) (v,x))=some (.normal,FG 4 3 6 (i/128,acc++[b]) y):=by
     simp only[aE];simp only[FG,bH.l0];simp only[Int.natCast_add,Int.natCast_emod,bO] at e1 e3;simp[hc',e1,e2,e3,e4,D1,aa]
    refine⟨(i/128,acc++[b]),y,hy,yY hi hc b,by simp only;omega, ?_⟩;simp only[sw hc,hb,bN,List.cons_append,List.nil_append]
   ·right;have hc':¬(127:Int)<i:=by omega
    refine⟨(v,x+32), ?_,by simp⟩;simp only[rM hc,dp];simp[FG,bH.l0,hc'])
  (n+1) (n,[]) ⟨hn,9,by simp only;omega,by simp⟩ (by simp)
 have hl:=rN 9 n (by omega);have e3:IntKind.u8.wrap ((o5 n).2:Int)=((UInt8.ofNat (o5 n).2).toNat:Int):=by rw[ofNat_toNat,wrap_u8]
 have e4:(o5 n).1.length+1≤4294967296:=by omega
 simp only[List.nil_append] at hr;simp[FG,-List.nil_append] at hr;generalize hb:UInt8.ofNat (o5 n).2=b at e3;have hv:gE n=(o5 n).1++[b]:=by rw[←hb];rfl
 rw[hv];simp[ba,bH.m,bH.b,ab,hr,e3,e4,D1,aa]
theorem K3(n:Nat)(h:n<9223372036854775808):FH .i64 (uG .i64 n 127) 128=((n%128+128:Nat):Int):=by
 have e1:=JS n 127 h (by omega);have e2:=xA (n%128) 128 (by omega) (by omega);rw[D8] at e1;rw[K4 _ (by omega)] at e2;rw[show (127:Int)=((127:Nat):Int) from rfl,e1];exact e2
theorem cU.al(h:cU.k M)(n:Nat)(hn:n≤9223372036854775807):run M 230 [.c (I n)] []=some (.lN [.c (S (if n≤1000000000 then gE n else [])),.c (.bool (decide (n≤1000000000)))],[]):=by
 have hw:=bV.al h.2 n 0 1000000000;refine aA (b:=cU.m) h.1 ⟨n+1, ?_⟩;by_cases hm:n≤1000000000;rotate_left
 ·have hm':¬(n:Int)≤1000000000:=by omega
  simp[hm'] at hw;simp[ba,cU.m,cU.b,ab,hw,hm]
 have hm':(n:Int)≤1000000000:=by omega
 simp[hm'] at hw;obtain⟨g,hr⟩:=jS (f:=ct (run M) (n+1) cU.l0) (FG 8 4 10) H8 (fun s=>s.1) (fun s=>(s.2++(o5 s.1).1,(o5 s.1).2))
  (fun q (m:Nat×Nat)=>(.exit 0,{t:=[(0,.c (I q.2)),(4,.c (.row 8 m.1 0 q.1.length)),(10,.c (.bool false))],o:=[(8,⟨m.1,1,true,false,sm q.1⟩)],n:=m.2}))
  (by
   rintro ⟨i,acc⟩ ⟨v,x⟩ hi;by_cases hc:i>127
   ·left;have hb:=hi.1;obtain⟨k,hk1,hk2⟩:=hi.2;simp only at hb hk1 hk2;have e1:=K3 i (by omega);have e2:(i:Int).fdiv 128=((i/128:Nat):Int):=by
     rw[Int.fdiv_eq_ediv_of_nonneg _ (by omega)];omega
    have e3:IntKind.u8.wrap ((i%128+128:Nat):Int)=((UInt8.ofNat (i%128+128)).toNat:Int):=by rw[ofNat_toNat,wrap_u8]
    have hc':(127:Int)<i:=by omega
    have e4:acc.length+1≤4294967296:=by omega
    generalize hb:UInt8.ofNat (i%128+128)=b at e3;obtain⟨y,hy⟩:∃y,ct (run M) (n+1) cU.l0 (FG 8 4 10 (i,acc) (v,x))=some (.normal,FG 8 4 10 (i/128,acc++[b]) y):=by
     simp only[aE];simp only[FG,cU.l0];simp only[Int.natCast_add,Int.natCast_emod,bO] at e1 e3;simp[hc',e1,e2,e3,e4,D1,aa,IntKind.bits]
    refine⟨(i/128,acc++[b]),y,hy,yY hi hc b,by simp only;omega, ?_⟩;simp only[sw hc,hb,bN,List.cons_append,List.nil_append]
   ·right;have hc':¬(127:Int)<i:=by omega
    refine⟨(v,x+32), ?_,by simp⟩;simp only[rM hc,dp];simp[FG,cU.l0,hc'])
  (n+1) (n,[]) ⟨hn,9,by simp only;omega,by simp⟩ (by simp)
 have hl:=rN 9 n (by omega);have e3:IntKind.u8.wrap ((o5 n).2:Int)=((UInt8.ofNat (o5 n).2).toNat:Int):=by rw[ofNat_toNat,wrap_u8]
 have e4:(o5 n).1.length+1≤4294967296:=by omega
 simp only[List.nil_append] at hr;simp[FG,-List.nil_append] at hr;generalize hb:UInt8.ofNat (o5 n).2=b at e3;have hv:gE n=(o5 n).1++[b]:=by rw[←hb];rfl
 rw[hv];simp[ba,cU.m,cU.b,ab,hr,hw,hm,e3,e4,D1,aa]
def fK(l:List UInt8):List UInt8:=gE l.length++l
theorem gh.al(h:gh.k M)(l:List UInt8)(hl:l.length≤4611686018427387904):run M 205 [.c (S l)] []=some (.lN [.c (S (if 20000<l.length then [] else fK l)),.c (.bool (!decide (20000<l.length)))],[]):=by
 have h1:=cU.al h.2 l.length (by omega);refine aA (b:=gh.m) h.1 ⟨0, ?_⟩;by_cases c:20000<l.length
 ·have c':20000<(l.length:Int):=by omega
  simp[ba,gh.m,gh.b,ab,c,c']
 ·have c':¬20000<(l.length:Int):=by omega
  have c2:l.length≤1000000000:=by omega
  have hv:=jc (n:=l.length) (by omega);simp only[c2,if_true,decide_true] at h1;simp (disch:=(first|omega|(simp;done)|(simp;omega))) [ba,gh.m,gh.b,ab,c,c',h1,fK,bL]
theorem jF.al(h:jF.k M)(l:List UInt8)(hl:l.length≤20000):run M 102 [.c (S l)] []=some (.c (S (fK l)),[]):=by
 have h1:=gh.al h.2 l (by omega);have c:¬20000<l.length:=by omega
 refine aA (b:=jF.m) h.1 ⟨0, ?_⟩;simp only[c,if_false] at h1;simp[ba,jF.m,jF.b,ab,h1]
def pw(k:Nat):Nat:=128^k
def mS(l:List UInt8)(a:Nat):Nat→Nat→Nat→Option (Nat×Nat×Bool)
 |0,_,_=>none
 |d+1,k,n=>if h:a+k<l.length then
   if l[a+k].toNat<128 then some (if n+l[a+k].toNat%128*pw k≤1000000000∧gE (n+l[a+k].toNat%128*pw k)=(l.drop a).take (k+1) then(n+l[a+k].toNat%128*pw k,a+k+1,true) else(0,0,false))
   else mS l a d (k+1) (n+l[a+k].toNat%128*pw k)
  else none
def fS(l:List UInt8)(a:Int):Nat×Nat×Bool:=if 0≤a∧a≤l.length then(mS l a.toNat 5 0 0).getD (0,0,false) else(0,0,false)
theorem A3(l:List UInt8)(a d k n:Nat)(h:¬a+k<l.length):mS l a d k n=none:=by
 cases d with
 |zero=>rfl
 |succ d=>rw[mS,dif_neg h]
theorem Dy(l:List UInt8)(a:Nat):∀d k n r,mS l a d k n=some r→r.1≤1000000000∧r.2.1≤l.length∧(r.2.2=true→a+k<r.2.1)
 |0,k,n,r,h=>by simp[mS] at h
 |d+1,k,n,r,hr=>by
  rw[mS] at hr;by_cases h:a+k<l.length
  ·rw[dif_pos h] at hr;split at hr
   ·simp only[aH] at hr;subst hr;split
    ·rename_i hc;exact⟨hc.1,by simp only;omega,fun _=>by simp only;omega⟩
    ·simp
   ·have:=Dy l a d (k+1) _ r hr;exact⟨this.1,this.2.1,fun q=>by have:=this.2.2 q;omega⟩
  ·rw[dif_neg h] at hr;cases hr
theorem pz(l:List UInt8)(a:Int):(fS l a).1≤1000000000∧(fS l a).2.1≤l.length∧((fS l a).2.2=true→0≤a∧a<(fS l a).2.1):=by
 unfold fS;split
 ·rename_i h;cases hg:mS l a.toNat 5 0 0 with
  |none=>simp
  |some r=>
   have:=Dy l a.toNat 5 0 0 r hg;exact⟨this.1,this.2.1,fun q=>⟨h.1,by have:=this.2.2 q;simp only[jz];omega⟩⟩
 ·simp
def Co(l:List UInt8)(a:Nat)(s:Nat×Nat)(x:Nat):St:={t:=[(0,.c (S l)),(1,.c (I a)),(7,.c (I s.2)),(8,.c (I (pw s.1:Nat))),(9,.c (I ((a:Int)+s.1)))],o:=[],n:=x}
def mO(q:Option (Nat×Nat×Bool))(m:St):Out×St:=match q with
 |some r=>(.ret,{t:=[(4,.c (I r.1)),(5,.c (I r.2.1)),(6,.c (.bool r.2.2))],o:=[],n:=m.n})
 |none=>(.exit 0,m)
theorem A4(q:Option (Nat×Nat×Bool))(m:St):(mO q m).1≠.normal:=by
 cases q<;>simp[mO]
theorem wH{k:Nat}(h:k≤5):pw k≤34359738368:=by
 have:k=0∨k=1∨k=2∨k=3∨k=4∨k=5:=by omega
 rcases this with rfl|rfl|rfl|rfl|rfl|rfl<;>decide+kernel
theorem z8(k:Nat):pw (k+1)=pw k*128:=Nat.pow_succ 128 k
theorem Du{n k b:Nat}(h:n<pw k):n+b%128*pw k<pw (k+1):=by
 have h1:b%128≤127:=by omega
 have h2:b%128*pw k≤127*pw k:=cC _ h1;rw[z8];omega
theorem cv.al(h:cv.k M)(l:List UInt8)(hl:l.length≤4611686018427387904)(a:Int):
  run M 221 [.c (S l),.c (I a)] []=some (.lN [.c (I (fS l a).1),.c (I (fS l a).2.1),.c (.bool (fS l a).2.2)],[]):=by
 obtain⟨h0,k1,k2⟩:=h;have hw:=bR.al k1 a 0 l.length;refine aA (b:=cv.m) h0 ⟨7, ?_⟩;by_cases c:0≤a∧a≤l.length;rotate_left
 ·have hb:(decide (0≤a)&&decide (a≤(l.length:Int)))=false:=by
   rw[Bool.eq_false_iff];intro hh;simp only[aj,decide_eq_true_eq] at hh;omega
  rw[hb] at hw;simp[ba,cv.m,cv.b,ab,hw,fS,c]
 obtain⟨c1,c2⟩:=c;obtain⟨a,rfl⟩:=h_ c1;have c3:a≤l.length:=by omega
 simp[c1,c3] at hw;obtain⟨g,hr⟩:=jS (f:=ct (run M) 7 cv.l0) (Co l a) (fun s=>s.1≤5∧s.2<pw s.1) (fun s=>5-s.1) (fun s=>mS l a (5-s.1) s.1 s.2) mO
  (by
   rintro ⟨k,n⟩ x ⟨h1,h2⟩;simp only at h1 h2;have hp:=wH h1;have e2:IntKind.i64.wrap ((a:Int)+5)=(a:Int)+5:=wrap_i64 (by omega) (by omega);have stop:(∃m,ct (run M) 7 cv.l0 (Co l a (k,n) x)=some (mO (mS l a (5-k) k n) m))→(∃s' y,ct (run M) 7 cv.l0 (Co l a (k,n) x)=some (.normal,Co l a s' y)∧(s'.1≤5∧s'.2<pw s'.1)∧5-s'.1<5-(k,n).1∧mS l a (5-s'.1) s'.1 s'.2=mS l a (5-(k,n).1) (k,n).1 (k,n).2)∨(∃z,ct (run M) 7 cv.l0 (Co l a (k,n) x)=some (mO (mS l a (5-(k,n).1) (k,n).1 (k,n).2) z)∧(mO (mS l a (5-(k,n).1) (k,n).1 (k,n).2) z).1≠.normal):=fun⟨m,hm⟩=> .inr ⟨m,hm,A4 _ _⟩
   by_cases hlt:a+k<l.length;rotate_left
   ·have d1:¬(a:Int)+k<l.length:=by omega
    refine stop ?_;simp only[A3 l a _ k n hlt,mO];simp[Co,cv.l0,d1]
   have d1:(a:Int)+k<l.length:=by omega
   by_cases h5:k<5;rotate_left
   ·have:k=5:=by omega
    subst this;refine stop ?_;simp only[Nat.sub_self,mS,mO];simp at d1;simp[Co,cv.l0,d1,e2]
   have d2:(a:Int)+k<a+5:=by omega
   have hs:=Du (b:=l[a+k].toNat) h2;have hp':=wH (k:=k+1) (by omega);have hd:5-k=(5-(k+1))+1:=by omega
   obtain⟨b,hb⟩:∃b,l[a+k]=b:=⟨_,rfl⟩
   rw[hb] at hs;have hbl:=b.toNat_lt;have e3:IntKind.i64.wrap (b.toNat:Int)=b.toNat:=wrap_i64 (by omega) (by omega);have q4:((b.toNat:Int)%128*(pw k:Nat))=((b.toNat%128*pw k:Nat):Int):=by push_cast;rfl
   have e4:IntKind.i64.wrap ((b.toNat:Int)%128*(pw k:Nat))=(b.toNat:Int)%128*(pw k:Nat):=by rw[q4];exact wrap_i64 (by omega) (by omega)
   have e5:IntKind.i64.wrap ((n:Int)+(b.toNat:Int)%128*(pw k:Nat))=(n:Int)+(b.toNat:Int)%128*(pw k:Nat):=by rw[q4];exact wrap_i64 (by omega) (by omega)
   have e6:IntKind.i64.wrap (((pw k:Nat):Int)*128)=((pw (k+1):Nat):Int):=by
    rw[show ((pw k:Nat):Int)*128=((pw (k+1):Nat):Int) by rw[z8];push_cast;rfl];exact wrap_i64 (by omega) (by omega)
   have e7:IntKind.i64.wrap ((a:Int)+k+1)=(a:Int)+(k+1):=by rw[wrap_i64 (by omega) (by omega)];omega
   have e8:((a:Int)+k).toNat=a+k:=by omega
   have e9:(b.toNat:Int).tmod 128=(b.toNat:Int)%128:=Int.tmod_eq_emod_of_nonneg (by omega);have h1':=bH.al k2 (n+b.toNat%128*pw k) (by omega);simp only[Int.natCast_add,Int.natCast_mul,Int.natCast_emod,bO] at h1';have f0:(0:Int)≤(a:Int)+k:=by omega
   by_cases hb128:b.toNat<128;rotate_left
   ·left;have b1:¬(b.toNat:Int)<128:=by omega
    obtain⟨y,hy⟩:∃y,ct (run M) 7 cv.l0 (Co l a (k,n) x)=some (.normal,Co l a (k+1,n+b.toNat%128*pw k) y):=by
     simp[Co,cv.l0,d1,d2,e2,e3,e4,e5,e6,e7,e8,e9,f0,hlt,dP,hb,b1]
    refine⟨(k+1,n+b.toNat%128*pw k),y,hy,⟨h5,hs⟩,by simp only;omega, ?_⟩;simp only[hd];rw[mS,dif_pos hlt,hb,if_neg hb128]
   refine stop ?_;have b1:(b.toNat:Int)<128:=by omega
   rw[hd,mS,dif_pos hlt,hb,if_pos hb128];have f1:(0:Int)≤(a:Int)+(k+1):=by omega
   have f2:((a:Int)+(k+1)).toNat=a+(k+1):=by omega
   by_cases hN:n+b.toNat%128*pw k≤1000000000;rotate_left
   ·rw[if_neg (fun q=>hN q.1)];have hN':1000000000<(n:Int)+(b.toNat:Int)%128*(pw k:Nat):=by rw[q4];omega
    simp[mO,Co,cv.l0,d1,d2,e2,e3,e4,e5,e6,e8,e9,f0,hlt,dP,hb,b1,hN'];exact⟨⟨[],[],_⟩,rfl⟩
   have hN':¬1000000000<(n:Int)+(b.toNat:Int)%128*(pw k:Nat):=by rw[q4];omega
   obtain⟨w,hw'⟩:∃w,(l.drop a).take (k+1)=w:=⟨_,rfl⟩
   have w1:(l.take (a+(k+1))).drop a=w:=by rw[←hw',List.drop_take];congr 1;omega
   have w2:(l.drop a).take (a+(k+1)-a)=w:=by rw[←hw'];congr 1;omega
   have g1:a≤a+(k+1)∧a+(k+1)≤l.length:=by omega
   rw[hw'];by_cases hv:gE (n+b.toNat%128*pw k)=w
   ·rw[if_pos ⟨hN,hv⟩];simp[mO,Co,cv.l0,d1,d2,e2,e3,e4,e5,e6,e7,e8,e9,f0,hlt,dP,hb,b1,hN',h1',f1,f2,w1,g1,hv];exact⟨by omega,⟨[],[],_⟩,rfl⟩
   ·rw[if_neg (fun q=>hv q.2)];simp[mO,Co,cv.l0,d1,d2,e2,e3,e4,e5,e6,e7,e8,e9,f0,hlt,dP,hb,b1,hN',h1',f1,f2,w1,g1,hv];exact⟨⟨[],[],_⟩,rfl⟩)
  7 (0,0) ⟨by simp,by simp[pw]⟩ (by simp)
 simp only[Nat.sub_zero] at hr;have hp0:pw 0=1:=rfl;simp only[fS];rw[if_pos ⟨c1,c2⟩];simp only[fy];cases hg:mS l a 5 0 0 with
 |none=>
  simp[Co,hg,mO,hp0] at hr;simp[ba,cv.m,cv.b,ab,hw,hr]
 |some r=>
  simp[Co,hg,mO,hp0] at hr;simp[ba,cv.m,cv.b,ab,hw,hr]
def CO(l:List UInt8)(a:Nat)(s:Nat×Nat)(x:Nat):St:={t:=[(0,.c (S l)),(1,.c (I a)),(7,.c (I s.2)),(8,.c (I s.1))],o:=[],n:=x}
theorem cy.al(h:cy.k M)(l:List UInt8)(hl:l.length≤4611686018427387904)(a:Int):
  run M 231 [.c (S l),.c (I a)] []=some (.lN [.c (I (fS l a).1),.c (I (fS l a).2.1),.c (.bool (fS l a).2.2)],[]):=by
 obtain⟨h0,k1,k2⟩:=h;have hw:=bV.al k1 a 0 l.length;refine aA (b:=cy.m) h0 ⟨7, ?_⟩;by_cases c:0≤a∧a≤l.length;rotate_left
 ·have hb:(decide (0≤a)&&decide (a≤(l.length:Int)))=false:=by
   rw[Bool.eq_false_iff];intro hh;simp only[aj,decide_eq_true_eq] at hh;omega
  rw[hb] at hw;simp[ba,cy.m,cy.b,ab,hw,fS,c]
 obtain⟨c1,c2⟩:=c;obtain⟨a,rfl⟩:=h_ c1;have c3:a≤l.length:=by omega
 simp[c1,c3] at hw;obtain⟨g,hr⟩:=jS (f:=ct (run M) 7 cy.l0) (CO l a) (fun s=>s.1≤5∧s.2<pw s.1) (fun s=>5-s.1) (fun s=>mS l a (5-s.1) s.1 s.2) mO
  (by
   rintro ⟨k,n⟩ x ⟨h1,h2⟩;simp only at h1 h2;have hp:=wH h1;have stop:(∃m,ct (run M) 7 cy.l0 (CO l a (k,n) x)=some (mO (mS l a (5-k) k n) m))→(∃s' y,ct (run M) 7 cy.l0 (CO l a (k,n) x)=some (.normal,CO l a s' y)∧(s'.1≤5∧s'.2<pw s'.1)∧5-s'.1<5-(k,n).1∧mS l a (5-s'.1) s'.1 s'.2=mS l a (5-(k,n).1) (k,n).1 (k,n).2)∨(∃z,ct (run M) 7 cy.l0 (CO l a (k,n) x)=some (mO (mS l a (5-(k,n).1) (k,n).1 (k,n).2) z)∧(mO (mS l a (5-(k,n).1) (k,n).1 (k,n).2) z).1≠.normal):=fun⟨m,hm⟩=> .inr ⟨m,hm,A4 _ _⟩
   by_cases h5:k<5;rotate_left
   ·have:k=5:=by omega
    subst this;refine stop ?_;simp only[Nat.sub_self,mS,mO];simp[CO,cy.l0]
   have d2:(k:Int)<5:=by omega
   have e0:IntKind.i64.wrap ((a:Int)+k)=(a:Int)+k:=wrap_i64 (by omega) (by omega);by_cases hlt:a+k<l.length;rotate_left
   ·have d1:¬(a:Int)+k<l.length:=by omega
    refine stop ?_;simp only[A3 l a _ k n hlt,mO];simp[CO,cy.l0,d1,d2,e0]
   have d1:(a:Int)+k<l.length:=by omega
   have hs:=Du (b:=l[a+k].toNat) h2;have hp':=wH (k:=k+1) (by omega);have hd:5-k=(5-(k+1))+1:=by omega
   obtain⟨b,hb⟩:∃b,l[a+k]=b:=⟨_,rfl⟩
   rw[hb] at hs;have hbl:=b.toNat_lt;have e3:uG .u8 (b.toNat:Int) 127=(b.toNat:Int)%128:=by
    have:=LF b.toNat 127 (by omega) (by omega);rw[D8] at this;rw[show (127:Int)=((127:Nat):Int) from rfl,this];omega
   have e3':IntKind.i64.wrap ((b.toNat:Int)%128)=(b.toNat:Int)%128:=wrap_i64 (by omega) (by omega);have e4:IntKind.i64.wrap (7*(k:Int))=7*(k:Int):=wrap_i64 (by omega) (by omega);have e4':(7*(k:Int)).toNat=7*k:=by omega
   have e4'':min (7*k) 64=7*k:=by omega
   have q4:((b.toNat:Int)%128*(pw k:Nat))=((b.toNat%128*pw k:Nat):Int):=by push_cast;rfl
   have q5:(2:Int)^(7*k)=(pw k:Nat):=by
    unfold pw;rw[Int.pow_mul];push_cast;rfl
   have e5:IntKind.i64.wrap ((b.toNat:Int)%128*(pw k:Nat))=(b.toNat:Int)%128*(pw k:Nat):=by rw[q4];exact wrap_i64 (by omega) (by omega)
   have e6:FH .i64 (n:Int) ((b.toNat:Int)%128*(pw k:Nat))=(n:Int)+(b.toNat:Int)%128*(pw k:Nat):=by
    rw[q4,xA n (b.toNat%128*pw k) (by omega) (by omega)];have:=IG n (b.toNat%128) k h2;unfold pw at this ⊢;rw[this];push_cast;rfl
   have e7:=cA (i:=k) (by omega);have e7':IntKind.i64.wrap ((a:Int)+k+1)=(a:Int)+(k+1):=by rw[wrap_i64 (by omega) (by omega)];omega
   have e8:((a:Int)+k).toNat=a+k:=by omega
   have h1':=cU.al k2 (n+b.toNat%128*pw k) (by omega);simp only[Int.natCast_add,Int.natCast_mul,Int.natCast_emod,bO] at h1';have f0:(0:Int)≤(a:Int)+k:=by omega
   have f3:(0:Int)≤7*(k:Int):=by omega
   have f4:¬7*(k:Int)<0:=by omega
   by_cases hb128:b.toNat<128;rotate_left
   ·left;have b1:127<(b.toNat:Int):=by omega
    obtain⟨y,hy⟩:∃y,ct (run M) 7 cy.l0 (CO l a (k,n) x)=some (.normal,CO l a (k+1,n+b.toNat%128*pw k) y):=by
     simp[CO,cy.l0,d1,d2,e0,e3,e3',e4,e4',e4'',e5,e6,e7,e8,q5,f0,f4,hlt,dP,hb,b1,IntKind.bits]
    refine⟨(k+1,n+b.toNat%128*pw k),y,hy,⟨h5,hs⟩,by simp only;omega, ?_⟩;simp only[hd];rw[mS,dif_pos hlt,hb,if_neg hb128]
   refine stop ?_;have b1:¬127<(b.toNat:Int):=by omega
   rw[hd,mS,dif_pos hlt,hb,if_pos hb128];have f1:(0:Int)≤(a:Int)+(k+1):=by omega
   have f2:((a:Int)+(k+1)).toNat=a+(k+1):=by omega
   by_cases hN:n+b.toNat%128*pw k≤1000000000;rotate_left
   ·rw[if_neg (fun q=>hN q.1)];simp only[hN,if_false,decide_false] at h1';simp[mO,CO,cy.l0,d1,d2,e0,e3,e3',e4,e4',e4'',e5,e6,e8,q5,f0,f4,hlt,dP,hb,b1,h1',IntKind.bits];exact⟨⟨[],[],_⟩,rfl⟩
   simp only[hN,if_true,decide_true] at h1';obtain⟨w,hw'⟩:∃w,(l.drop a).take (k+1)=w:=⟨_,rfl⟩
   have w1:(l.take (a+(k+1))).drop a=w:=by rw[←hw',List.drop_take];congr 1;omega
   have w2:(l.drop a).take (a+(k+1)-a)=w:=by rw[←hw'];congr 1;omega
   have g1:a≤a+(k+1)∧a+(k+1)≤l.length:=by omega
   rw[hw'];by_cases hv:gE (n+b.toNat%128*pw k)=w
   ·rw[if_pos ⟨hN,hv⟩];simp[mO,CO,cy.l0,d1,d2,e0,e3,e3',e4,e4',e4'',e5,e6,e7',e8,q5,f0,f4,hlt,dP,hb,b1,h1',f1,f2,w1,g1,hv,IntKind.bits];exact⟨by omega,⟨[],[],_⟩,rfl⟩
   ·rw[if_neg (fun q=>hv q.2)];simp[mO,CO,cy.l0,d1,d2,e0,e3,e3',e4,e4',e4'',e5,e6,e7',e8,q5,f0,f4,hlt,dP,hb,b1,h1',f1,f2,w1,g1,hv,IntKind.bits];exact⟨⟨[],[],_⟩,rfl⟩)
  7 (0,0) ⟨by simp,by simp[pw]⟩ (by simp)
 simp only[Nat.sub_zero] at hr;simp only[fS];rw[if_pos ⟨c1,c2⟩];simp only[fy];cases hg:mS l a 5 0 0 with
 |none=>
  simp[CO,hg,mO] at hr;simp[ba,cy.m,cy.b,ab,hw,hr]
 |some r=>
  simp[CO,hg,mO] at hr;simp[ba,cy.m,cy.b,ab,hw,hr]
def c_(l:List UInt8)(a:Int):List UInt8×Nat×Bool:=
 if(fS l a).2.2=true∧(fS l a).1≤20000∧(fS l a).1+(fS l a).2.1≤l.length then((l.drop (fS l a).2.1).take (fS l a).1,(fS l a).2.1+(fS l a).1,true) else([],0,false)
theorem dX.al(h:dX.k M)(l:List UInt8)(hl:l.length≤4611686018427387904)(a:Int):
  run M 206 [.c (S l),.c (I a)] []=some (.lN [.c (S (c_ l a).1),.c (I (c_ l a).2.1),.c (.bool (c_ l a).2.2)],[]):=by
 have h1:=cv.al h.2 l hl a;obtain⟨q1,q2,_⟩:=pz l a;refine aA (b:=dX.m) h.1 ⟨0, ?_⟩;unfold c_;generalize (fS l a).1=n at*;generalize (fS l a).2.1=f at*;generalize (fS l a).2.2=ok at*;cases ok with
 |false=>simp[ba,dX.m,dX.b,ab,h1]
 |true=>
  by_cases c1:n≤20000;rotate_left
  ·have c1':20000<(n:Int):=by omega
   simp[ba,dX.m,dX.b,ab,h1,c1,c1']
  have c1':¬20000<(n:Int):=by omega
  have e1:IntKind.i64.wrap ((l.length:Int)-f)=(l.length:Int)-f:=wrap_i64 (by omega) (by omega);by_cases c2:n+f≤l.length;rotate_left
  ·have c2':(l.length:Int)-f<n:=by omega
   simp[ba,dX.m,dX.b,ab,h1,c1,c1',c2,c2',e1]
  have c2':¬(l.length:Int)-f<n:=by omega
  have e2:IntKind.i64.wrap ((f:Int)+n)=(f:Int)+n:=wrap_i64 (by omega) (by omega);have e3:((f:Int)+n).toNat=f+n:=by omega
  have e4:(0:Int)≤(f:Int)+n:=by omega
  have e5:f≤f+n∧f+n≤l.length:=by omega
  obtain⟨w,hw⟩:∃w,(l.drop f).take n=w:=⟨_,rfl⟩
  have w1:(l.take (f+n)).drop f=w:=by rw[←hw,List.drop_take];congr 1;omega
  have w2:(l.drop f).take (f+n-f)=w:=by rw[←hw];congr 1;omega
  simp[ba,dX.m,dX.b,ab,h1,c1,c1',c2,c2',e1,e2,e3,e4,e5,hw,w1]
theorem dk.al(h:dk.k M)(l:List UInt8)(hl:l.length≤4611686018427387904)(a:Int):
  run M 207 [.c (S l),.c (I a)] []=some (.lN [.c (S (c_ l a).1),.c (I (c_ l a).2.1),.c (.bool (c_ l a).2.2)],[]):=by
 have h1:=cy.al h.2 l hl a;obtain⟨q1,q2,_⟩:=pz l a;refine aA (b:=dk.m) h.1 ⟨0, ?_⟩;unfold c_;generalize (fS l a).1=n at*;generalize (fS l a).2.1=f at*;generalize (fS l a).2.2=ok at*;cases ok with
 |false=>simp[ba,dk.m,dk.b,ab,h1]
 |true=>
  by_cases c1:n≤20000;rotate_left
  ·have c1':20000<(n:Int):=by omega
   simp[ba,dk.m,dk.b,ab,h1,c1,c1']
  have c1':¬20000<(n:Int):=by omega
  have e1:IntKind.i64.wrap ((l.length:Int)-f)=(l.length:Int)-f:=wrap_i64 (by omega) (by omega);by_cases c2:n+f≤l.length;rotate_left
  ·have c2':(l.length:Int)-f<n:=by omega
   simp[ba,dk.m,dk.b,ab,h1,c1,c1',c2,c2',e1]
  have c2':¬(l.length:Int)-f<n:=by omega
  have e2:IntKind.i64.wrap ((f:Int)+n)=(f:Int)+n:=wrap_i64 (by omega) (by omega);have e3:((f:Int)+n).toNat=f+n:=by omega
  have e4:(0:Int)≤(f:Int)+n:=by omega
  have e5:f≤f+n∧f+n≤l.length:=by omega
  obtain⟨w,hw⟩:∃w,(l.drop f).take n=w:=⟨_,rfl⟩
  have w1:(l.take (f+n)).drop f=w:=by rw[←hw,List.drop_take];congr 1;omega
  have w2:(l.drop f).take (f+n-f)=w:=by rw[←hw];congr 1;omega
  simp[ba,dk.m,dk.b,ab,h1,c1,c1',c2,c2',e1,e2,e3,e4,e5,hw,w1]
abbrev B7(n:Int):T:= .int .u32 n
def half(x:Int):Int:=if x%2=1 then AM .u32 (x/2) 3558460437 else x/2
def ur:Nat→Int→Int
 |0,x=>x
 |n+1,x=>ur n (half x)
def pM(x:Int)(b:UInt8):Int:=ur 8 (AM .u32 x b.toNat)
def o6(x:Int)(l:List UInt8):Int:=l.foldl pM x
def sumOf(l:List UInt8):Int:=o6 4294967295 l
def p0(x:Int):Prop:=0≤x∧x<4294967296
theorem uL(x y:Int):p0 (AM .u32 x y):=by
 unfold AM p0;rw[wrap_u32];omega
theorem Ay{x:Int}(h:p0 x):p0 (half x):=by
 unfold half;split
 ·exact uL _ _
 ·unfold p0 at*;omega
theorem uq:∀(n:Nat) {x:Int},p0 x→p0 (ur n x)
 |0,_,h=>h
 |n+1,_,h=>uq n (Ay h)
theorem wW:∀(l:List UInt8) {x:Int},p0 x→p0 (o6 x l)
 |[],_,h=>h
 |b::l,x,h=>by
  show p0 (o6 (pM x b) l);exact wW l (uq 8 (uL _ _))
theorem AQ(l:List UInt8):p0 (sumOf l):=wW l ⟨by decide,by decide⟩
def Ki(l:List UInt8)(j:Nat)(s:Nat×Int)(x:Nat):St:={t:=[(0,.c (B7 s.2)),(1,.c (S l)),(5,.c (I j)),(6,.c (I s.1))],o:=[],n:=x}
theorem Mv{x:Int}(h:0≤x):x.tmod 2=x%2:=Int.tmod_eq_emod_of_nonneg h
theorem Mw{x:Int}(h:0≤x):x.tdiv 2=x/2:=Int.tdiv_eq_ediv_of_nonneg h
theorem cN.inner(cf:cT)(k:Nat)(l:List UInt8)(j:Nat)(x0:Int)(h0:p0 x0):∀m,8<m→∃g:Nat→Nat,∀x,eZ (ct cf k cN.l1) m (Ki l j (0,x0) x)=
  some (.exit 2,{t:=[(0,.c (B7 (ur 8 x0))),(1,.c (S l)),(5,.c (I j)),(6,.c (I 8)),(21,.c (.bool false))],o:=[],n:=g x}):=by
 intro m hm;exact jS (f:=ct cf k cN.l1) (Ki l j) (fun s=>s.1≤8∧p0 s.2) (fun s=>8-s.1) (fun s=>ur (8-s.1) s.2)
  (fun q m=>(.exit 2,{t:=[(0,.c (B7 q)),(1,.c (S l)),(5,.c (I j)),(6,.c (I 8)),(21,.c (.bool false))],o:=[],n:=m}))
  (by
   rintro ⟨i,y⟩ x ⟨h1,h2⟩;simp only at h1 h2;by_cases hlt:i<8
   ·have e5:=cA (i:=i) (by omega);have e0:(i:Int)<8:=by omega
    have e1:=Mv h2.1;have e2:=Mw h2.1;have e3:IntKind.u32.wrap (y/2)=y/2:=by rw[wrap_u32];have:=h2.2;have:=h2.1;omega
    have hd:8-i=(8-(i+1))+1:=by omega
    left;obtain⟨z,hz⟩:∃z,ct cf k cN.l1 (Ki l j (i,y) x)=some (.normal,Ki l j (i+1,half y) z):=by
     by_cases c:y%2=1
     ·simp[Ki,cN.l1,e0,e5,e1,e2,e3,c,half]
     ·simp[Ki,cN.l1,e0,e5,e1,e2,e3,c,half]
    exact⟨(i+1,half y),z,hz,⟨hlt,Ay h2⟩,by simp only;omega,by simp only[hd];rfl⟩
   ·have:i=8:=by omega
    subst this;exact .inr ⟨x+32,by simp[Ki,cN.l1,ur],by simp⟩)
  m (0,x0) ⟨by simp,h0⟩ (by simp;omega)
theorem OR{x:Int}(h:p0 x):uG .u32 x 1=x%2:=by
 obtain⟨n,rfl⟩:=h_ h.1;have h2:n<4294967296:=by have:=h.2;omega
 rw[wQ,wrap_u32];have e1:((n:Int)%((2^IntKind.u32.bits:Nat):Int)).toNat=n:=by
  show ((n:Int)%4294967296).toNat=n;omega
 have e2:((1:Int)%((2^IntKind.u32.bits:Nat):Int)).toNat=1:=by decide
 rw[e1,e2,Nat.and_one_is_mod];omega
def Kp(l:List UInt8)(j:Nat)(s:Nat×Int)(x:Nat):St:={t:=[(0,.c (B7 s.2)),(1,.c (S l)),(5,.c (I j)),(19,.c (I s.1))],o:=[],n:=x}
theorem cO.inner(cf:cT)(k:Nat)(l:List UInt8)(j:Nat)(x0:Int)(h0:p0 x0):∀m,8<m→∃g:Nat→Nat,∀x,eZ (ct cf k cO.l1) m (Kp l j (0,x0) x)=
  some (.exit 2,{t:=[(0,.c (B7 (ur 8 x0))),(1,.c (S l)),(5,.c (I j)),(19,.c (I 8)),(20,.c (.bool false))],o:=[],n:=g x}):=by
 intro m hm;exact jS (f:=ct cf k cO.l1) (Kp l j) (fun s=>s.1≤8∧p0 s.2) (fun s=>8-s.1) (fun s=>ur (8-s.1) s.2)
  (fun q m=>(.exit 2,{t:=[(0,.c (B7 q)),(1,.c (S l)),(5,.c (I j)),(19,.c (I 8)),(20,.c (.bool false))],o:=[],n:=m}))
  (by
   rintro ⟨i,y⟩ x ⟨h1,h2⟩;simp only at h1 h2;by_cases hlt:i<8
   ·have e5:=cA (i:=i) (by omega);have e0:(i:Int)<8:=by omega
    have e1:=OR h2;have e2:y.fdiv 2=y/2:=Int.fdiv_eq_ediv_of_nonneg _ (by omega);have hd:8-i=(8-(i+1))+1:=by omega
    left;obtain⟨z,hz⟩:∃z,ct cf k cO.l1 (Kp l j (i,y) x)=some (.normal,Kp l j (i+1,half y) z):=by
     by_cases c:y%2=1
     ·simp[Kp,cO.l1,e0,e5,e1,e2,c,half,IntKind.bits]
     ·simp[Kp,cO.l1,e0,e5,e1,e2,c,half,IntKind.bits]
    exact⟨(i+1,half y),z,hz,⟨hlt,Ay h2⟩,by simp only;omega,by simp only[hd];rfl⟩
   ·have:i=8:=by omega
    subst this;exact .inr ⟨x+16,by simp[Kp,cO.l1,ur],by simp⟩)
  m (0,x0) ⟨by simp,h0⟩ (by simp;omega)
theorem FW(b:UInt8):IntKind.u32.wrap (b.toNat:Int)=b.toNat:=by
 rw[wrap_u32];have:=b.toNat_lt;omega
def rJ(l:List UInt8)(s:Nat×Int)(x:Nat):St:={t:=[(0,.c (B7 s.2)),(1,.c (S l)),(5,.c (I s.1))],o:=[],n:=x}
theorem cN.al(h:cN.k M)(l:List UInt8)(hl:l.length≤4611686018427387904)(x0:Int)(h0:p0 x0):run M 248 [.c (B7 x0),.c (S l)] []=some (.c (B7 (o6 x0 l)),[]):=by
 refine aA (b:=cN.m) h ⟨l.length+9, ?_⟩;obtain⟨g,hr⟩:=jS (f:=ct (run M) (l.length+9) cN.l0) (rJ l) (fun s=>s.1≤l.length∧p0 s.2) (fun s=>l.length-s.1) (fun s=>o6 s.2 (l.drop s.1))
  (fun q m=>(.exit 0,{t:=[(0,.c (B7 q)),(1,.c (S l)),(5,.c (I l.length)),(11,.c (.bool false))],o:=[],n:=m}))
  (by
   rintro ⟨i,y⟩ x ⟨h1,h2⟩;simp only at h1 h2;by_cases hlt:i<l.length
   ·have e5:=cA (i:=i) (by omega);have e6:=FW l[i];obtain⟨g1,hg⟩:=cN.inner (run M) (l.length+9) l i (AM .u32 y l[i].toNat) (uL _ _) (l.length+9) (by omega);simp[Ki] at hg;left;obtain⟨z,hz⟩:∃z,ct (run M) (l.length+9) cN.l0 (rJ l (i,y) x)=some (.normal,rJ l (i+1,pM y l[i]) z):=by
     simp[rJ,cN.l0,hlt,dP,e5,e6,hg,pM]
    refine⟨(i+1,pM y l[i]),z,hz,⟨hlt,uq 8 (uL _ _)⟩,by simp only;omega, ?_⟩;simp only[bD hlt];rfl
   ·have:i=l.length:=by omega
    subst this;exact .inr ⟨x+64,by simp[rJ,cN.l0,o6],by simp⟩)
  (l.length+9) (0,x0) ⟨Nat.zero_le _,h0⟩ (by simp)
 simp[rJ] at hr;simp[ba,cN.m,cN.b,ab,hr]
theorem cO.al(h:cO.k M)(l:List UInt8)(hl:l.length≤4611686018427387904)(x0:Int)(h0:p0 x0):run M 249 [.c (B7 x0),.c (S l)] []=some (.c (B7 (o6 x0 l)),[]):=by
 refine aA (b:=cO.m) h ⟨l.length+9, ?_⟩;obtain⟨g,hr⟩:=jS (f:=ct (run M) (l.length+9) cO.l0) (rJ l) (fun s=>s.1≤l.length∧p0 s.2) (fun s=>l.length-s.1) (fun s=>o6 s.2 (l.drop s.1))
  (fun q m=>(.exit 0,{t:=[(0,.c (B7 q)),(1,.c (S l)),(5,.c (I l.length)),(10,.c (.bool false))],o:=[],n:=m}))
  (by
   rintro ⟨i,y⟩ x ⟨h1,h2⟩;simp only at h1 h2;by_cases hlt:i<l.length
   ·have e5:=cA (i:=i) (by omega);have e6:=FW l[i];obtain⟨g1,hg⟩:=cO.inner (run M) (l.length+9) l i (AM .u32 y l[i].toNat) (uL _ _) (l.length+9) (by omega);simp[Kp] at hg;left;obtain⟨z,hz⟩:∃z,ct (run M) (l.length+9) cO.l0 (rJ l (i,y) x)=some (.normal,rJ l (i+1,pM y l[i]) z):=by
     simp[rJ,cO.l0,hlt,dP,e5,e6,hg,pM]
    refine⟨(i+1,pM y l[i]),z,hz,⟨hlt,uq 8 (uL _ _)⟩,by simp only;omega, ?_⟩;simp only[bD hlt];rfl
   ·have:i=l.length:=by omega
    subst this;exact .inr ⟨x+64,by simp[rJ,cO.l0,o6],by simp⟩)
  (l.length+9) (0,x0) ⟨Nat.zero_le _,h0⟩ (by simp)
 simp[rJ] at hr;simp[ba,cO.m,cO.b,ab,hr]
theorem jE.al(h:jE.k M)(l:List UInt8)(hl:l.length≤4611686018427387904):run M 201 [.c (S l)] []=some (.c (B7 (sumOf l)),[]):=by
 have h1:=cN.al h.2 l hl 4294967295 ⟨by decide,by decide⟩;refine aA (b:=jE.m) h.1 ⟨0, ?_⟩;simp[ba,jE.m,jE.b,ab,h1,sumOf]
theorem jH.al(h:jH.k M)(l:List UInt8)(hl:l.length≤4611686018427387904):run M 203 [.c (S l)] []=some (.c (B7 (sumOf l)),[]):=by
 have h1:=cO.al h.2 l hl 4294967295 ⟨by decide,by decide⟩;refine aA (b:=jH.m) h.1 ⟨0, ?_⟩;simp[ba,jH.m,jH.b,ab,h1,sumOf]
def byteOf(x:Int):UInt8:=UInt8.ofNat (x%256).toNat
def four(x:Int):List UInt8:=[byteOf (x/16777216),byteOf (x/65536),byteOf (x/256),byteOf x]
theorem n9(x:Int):(four x).length=4:=rfl
theorem iu.al(h:iu.k M)(x:Int):run M 202 [.c (B7 x)] []=some (.c (S (four x)),[]):=by
 refine aA (b:=iu.m) h ⟨0, ?_⟩;have e1:x.fdiv 16777216=x/16777216:=Int.fdiv_eq_ediv_of_nonneg _ (by omega);have e2:x.fdiv 65536=x/65536:=Int.fdiv_eq_ediv_of_nonneg _ (by omega);have e3:x.fdiv 256=x/256:=Int.fdiv_eq_ediv_of_nonneg _ (by omega);simp[ba,iu.m,iu.b,ab,IntKind.bits,e1,e2,e3,mF,four,byteOf,wrap_u8]
theorem kO.al(h:kO.k M)(x:Int):run M 204 [.c (I x)] []=some (.c (S (four x)),[]):=by
 refine aA (b:=kO.m) h ⟨0, ?_⟩;have e1:x.fdiv 16777216=x/16777216:=Int.fdiv_eq_ediv_of_nonneg _ (by omega);have e2:x.fdiv 65536=x/65536:=Int.fdiv_eq_ediv_of_nonneg _ (by omega);have e3:x.fdiv 256=x/256:=Int.fdiv_eq_ediv_of_nonneg _ (by omega);simp[ba,kO.m,kO.b,ab,IntKind.bits,e1,e2,e3,mF,four,byteOf,wrap_u8]
def mm(l:List UInt8):List UInt8×Bool:=if 20000<l.length then([],false) else(l++four (sumOf l),true)
theorem ig.al(h:ig.k M)(l:List UInt8)(hl:l.length≤4611686018427387904):run M 100 [.c (S l)] []=some (.lN [.c (S (mm l).1),.c (.bool (mm l).2)],[]):=by
 have h1:=jE.al h.2.1 l hl;have h2:=iu.al h.2.2 (sumOf l);refine aA (b:=ig.m) h.1 ⟨0, ?_⟩;by_cases c:20000<l.length
 ·have c':20000<(l.length:Int):=by omega
  simp[ba,ig.m,ig.b,ab,mm,c,c']
 ·have c':¬20000<(l.length:Int):=by omega
  have e:=n9 (sumOf l);simp (disch:=(first|omega|(simp;done)|(simp;omega))) [ba,ig.m,ig.b,ab,mm,c,c',h1,h2,bL]
theorem iY.al(h:iY.k M)(l:List UInt8)(hl:l.length≤4611686018427387904):run M 103 [.c (S l)] []=some (.lN [.c (S (mm l).1),.c (.bool (mm l).2)],[]):=by
 have h1:=jH.al h.2.1 l hl;have h2:=kO.al h.2.2 (sumOf l);refine aA (b:=iY.m) h.1 ⟨0, ?_⟩;by_cases c:20000<l.length
 ·have c':20000<(l.length:Int):=by omega
  simp[ba,iY.m,iY.b,ab,mm,c,c']
 ·have c':¬20000<(l.length:Int):=by omega
  have e:=n9 (sumOf l);have hin:=AQ l;have e2:IntKind.i64.wrap (sumOf l)=sumOf l:=wrap_i64 (by have:=hin.1;omega) (by have:=hin.2;omega);simp (disch:=(first|omega|(simp;done)|(simp;omega))) [ba,iY.m,iY.b,ab,mm,c,c',h1,h2,bL,e2]
def kq(l:List UInt8):List UInt8×Bool:=if 1≤l.length∧l.length≤6000 then mm (fK l) else([],false)
theorem fF.al(h:fF.k M)(l:List UInt8)(hl:l.length≤4611686018427387904):run M 10 [.c (S l)] []=some (.lN [.c (S (kq l).1),.c (.bool (kq l).2)],[]):=by
 obtain⟨h0,k1,k2,k3⟩:=h;have hw:=bR.al k1 l.length 1 6000;refine aA (b:=fF.m) h0 ⟨0, ?_⟩;by_cases c:1≤l.length∧l.length≤6000
 ·have c1:(1:Int)≤l.length:=by omega
  have c2:(l.length:Int)≤6000:=by omega
  have h1:=bH.al k2 l.length (by omega);have hv:=jc (n:=l.length) (by omega);have h2:=ig.al k3 (gE l.length++l) (by simp;omega);simp[c1,c2] at hw;simp (disch:=(first|omega|(simp;done)|(simp;omega))) [ba,fF.m,fF.b,ab,hw,h1,h2,kq,c,fK,bL]
 ·have hb:(decide ((1:Int)≤l.length)&&decide ((l.length:Int)≤6000))=false:=by
   rw[Bool.eq_false_iff];intro hh;simp only[aj,decide_eq_true_eq] at hh;omega
  rw[hb] at hw;simp[ba,fF.m,fF.b,ab,hw,kq,c]
def x7(a b c d:UInt8):Nat:=a.toNat*16777216+b.toNat*65536+c.toNat*256+d.toNat
theorem Fi(x:Int)(b:UInt8):byteOf x=b↔x%256=b.toNat:=by
 have hb:=b.toNat_lt;unfold byteOf;rw[←UInt8.toNat_inj];rw[UInt8.toNat_ofNat'];omega
theorem Jw{x:Int}(h:p0 x)(a b c d:UInt8):four x=[a,b,c,d]↔x=x7 a b c d:=by
 have ha:=a.toNat_lt;have hb:=b.toNat_lt;have hc:=c.toNat_lt;have hd:=d.toNat_lt;obtain⟨h1,h2⟩:=h;simp only[four,List.cons.injEq,and_true,Fi,x7];omega
theorem KZ(n k d:Nat)(h:n<2^k):d*2^k|||n=d*2^k+n:=by
 have:=Nat.two_pow_add_eq_or_of_lt (i:=k) (b:=n) h d;rw[Nat.mul_comm d,←this]
theorem K0{m k d n:Nat}(hm:m=2^k)(h:n<m):d*m|||n=d*m+n:=by subst hm;exact KZ n k d h
theorem Kf(a b:Nat):a*16777216+b*65536=(a*256+b)*65536:=by rw[Nat.add_mul,Nat.mul_assoc]
theorem H6(a b c:Nat):(a*256+b)*65536+c*256=(a*65536+b*256+c)*256:=by simp only[Nat.add_mul,Nat.mul_assoc]
theorem CP(l:List UInt8)(n n1 n2 n3:Nat)(a b c d:Int)(i0:n<l.length)(i1:n1<l.length)(i2:n2<l.length)(i3:n3<l.length)(ha:(l[n].toNat:Int)=a)(hb:(l[n1].toNat:Int)=b)(hc:(l[n2].toNat:Int)=c)(hd:(l[n3].toNat:Int)=d)
  (w11:IntKind.i64.wrap ((n:Int)+1)=(n1:Int)) (w12:IntKind.i64.wrap ((n:Int)+2)=(n2:Int)) (w13:IntKind.i64.wrap ((n:Int)+3)=(n3:Int)) (va:IntKind.i64.wrap a=a) (vb:IntKind.i64.wrap b=b) (vc:IntKind.i64.wrap c=c) (vd:IntKind.i64.wrap d=d)
  (y1 y2 y3 z1 z2 z3:Int) (sh1:nI .shl .i64 a 24=some (.int .i64 y1)) (sh2:nI .shl .i64 b 16=some (.int .i64 y2)) (sh3:nI .shl .i64 c 8=some (.int .i64 y3))
  (o1:FH .i64 y1 y2=z1) (o2:FH .i64 z1 y3=z2) (o3:FH .i64 z2 d=z3):
  ba (run M) 0 ij.m [.c (S l),.c (I n)] []=some (.c (I z3),[]):=by
 simp[ba,ij.m,ij.b,ab,dP,i0,i1,i2,i3,ha,hb,hc,hd,w11,w12,w13,va,vb,vc,vd,sh1,sh2,sh3,o1,o2,o3,-nI]
theorem ij.Mz(h:ij.k M)(l:List UInt8)(n n1 n2 n3:Nat)(m1:n1=n+1)(m2:n2=n+2)(m3:n3=n+3)(i0:n<l.length)(i1:n1<l.length)(i2:n2<l.length)(i3:n3<l.length)(hl:l.length≤4611686018427387904):
  run M 236 [.c (S l),.c (I n)] []=some (.c (I (x7 l[n] l[n1] l[n2] l[n3])),[]):=by
 refine aA (b:=ij.m) h ⟨0, ?_⟩;obtain⟨a,ha⟩:∃b,l[n]=b:=⟨_,rfl⟩
 obtain⟨b,hb⟩:∃b,l[n1]=b:=⟨_,rfl⟩
 obtain⟨c,hc⟩:∃b,l[n2]=b:=⟨_,rfl⟩
 obtain⟨d,hd⟩:∃b,l[n3]=b:=⟨_,rfl⟩
 rw[ha,hb,hc,hd];have ha':=a.toNat_lt;have hb':=b.toNat_lt;have hc':=c.toNat_lt;have hd':=d.toNat_lt;have w11:IntKind.i64.wrap ((n:Int)+1)=(n1:Int):=by rw[wrap_i64 (by omega) (by omega)];omega
 have w12:IntKind.i64.wrap ((n:Int)+2)=(n2:Int):=by rw[wrap_i64 (by omega) (by omega)];omega
 have w13:IntKind.i64.wrap ((n:Int)+3)=(n3:Int):=by rw[wrap_i64 (by omega) (by omega)];omega
 clear m1 m2 m3;have v:∀x:UInt8,IntKind.i64.wrap (x.toNat:Int)=x.toNat:=fun x=>wrap_i64 (by omega) (by have:=x.toNat_lt;omega)
 have s1:IntKind.i64.wrap ((a.toNat:Int)*16777216)=(a.toNat:Int)*16777216:=wrap_i64 (by omega) (by omega);have s2:IntKind.i64.wrap ((b.toNat:Int)*65536)=(b.toNat:Int)*65536:=wrap_i64 (by omega) (by omega);have s3:IntKind.i64.wrap ((c.toNat:Int)*256)=(c.toNat:Int)*256:=wrap_i64 (by omega) (by omega);obtain⟨z1,hz1⟩:∃z:Nat,z=a.toNat*16777216+b.toNat*65536:=⟨_,rfl⟩
 obtain⟨z2,hz2⟩:∃z:Nat,z=z1+c.toNat*256:=⟨_,rfl⟩
 obtain⟨z3,hz3⟩:∃z:Nat,z=z2+d.toNat:=⟨_,rfl⟩
 have o1:FH .i64 ((a.toNat:Int)*16777216) ((b.toNat:Int)*65536)=(z1:Int):=by
  have:=xA (a.toNat*16777216) (b.toNat*65536) (by omega) (by omega);rw[K0 (m:=16777216) (k:=24) (by simp) (by omega),←hz1] at this;rw[show (a.toNat:Int)*16777216=((a.toNat*16777216:Nat):Int) by omega,show (b.toNat:Int)*65536=((b.toNat*65536:Nat):Int) by omega];exact this
 have o2:FH .i64 (z1:Int) ((c.toNat:Int)*256)=(z2:Int):=by
  have:=xA z1 (c.toNat*256) (by omega) (by omega);have e:z1=(a.toNat*256+b.toNat)*65536:=by rw[hz1];exact Kf _ _
  have e2:=K0 (m:=65536) (k:=16) (d:=a.toNat*256+b.toNat) (n:=c.toNat*256) (by simp) (by omega);rw[←e,←hz2] at e2;rw[e2] at this;rw[show (c.toNat:Int)*256=((c.toNat*256:Nat):Int) by omega];exact this
 have o3:FH .i64 (z2:Int) (d.toNat:Int)=(z3:Int):=by
  have:=xA z2 d.toNat (by omega) (by omega);have e:z2=(a.toNat*65536+b.toNat*256+c.toNat)*256:=by rw[hz2,hz1,Kf];exact H6 _ _ _
  have e2:=K0 (m:=256) (k:=8) (d:=a.toNat*65536+b.toNat*256+c.toNat) (n:=d.toNat) (by simp) (by omega);rw[←e,←hz3] at e2;rw[e2] at this;exact this
 have hz:x7 a b c d=z3:=by unfold x7;omega
 rw[hz];clear hz hz3 hz2 hz1;have sh1:nI .shl .i64 (a.toNat:Int) 24=some (.int .i64 ((a.toNat:Int)*16777216)):=by simp[IntKind.bits,s1]
 have sh2:nI .shl .i64 (b.toNat:Int) 16=some (.int .i64 ((b.toNat:Int)*65536)):=by simp[IntKind.bits,s2]
 have sh3:nI .shl .i64 (c.toNat:Int) 8=some (.int .i64 ((c.toNat:Int)*256)):=by simp[IntKind.bits,s3]
 clear s1 s2 s3;obtain⟨y1,hy1⟩:∃y:Int,y=(a.toNat:Int)*16777216:=⟨_,rfl⟩
 obtain⟨y2,hy2⟩:∃y:Int,y=(b.toNat:Int)*65536:=⟨_,rfl⟩
 obtain⟨y3,hy3⟩:∃y:Int,y=(c.toNat:Int)*256:=⟨_,rfl⟩
 rw[←hy1] at sh1 o1;rw[←hy2] at sh2 o1;rw[←hy3] at sh3 o2;clear hy1 hy2 hy3;exact CP l n n1 n2 n3 a.toNat b.toNat c.toNat d.toNat i0 i1 i2 i3 (by rw[ha]) (by rw[hb]) (by rw[hc]) (by rw[hd]) w11 w12 w13 (v a) (v b) (v c) (v d) y1 y2 y3 z1 z2 z3 sh1 sh2 sh3 o1 o2 o3
theorem ij.al(h:ij.k M)(l:List UInt8)(n:Nat)(hn:n+4≤l.length)(hl:l.length≤4611686018427387904):
  run M 236 [.c (S l),.c (I n)] []=some (.c (I (x7 l[n] l[n+1] l[n+2] l[n+3])),[]):=
 ij.Mz h l n (n+1) (n+2) (n+3) rfl rfl rfl (by omega) (by omega) (by omega) (by omega) hl
def fT(l:List UInt8):List UInt8×Bool:=
 if 4≤l.length∧l.length≤20004∧l.drop (l.length-4)=four (sumOf (l.take (l.length-4))) then(l.take (l.length-4),true) else([],false)
theorem fb.al(h:fb.k M)(l:List UInt8)(hl:l.length≤4611686018427387904):run M 167 [.c (S l)] []=some (.lN [.c (S (fT l).1),.c (.bool (fT l).2)],[]):=by
 have e1:IntKind.i64.wrap ((l.length:Int)-4)=(l.length:Int)-4:=wrap_i64 (by omega) (by omega);refine aA (b:=fb.m) h.1 ⟨0, ?_⟩;by_cases c1:4≤l.length;rotate_left
 ·have d1:(l.length:Int)-4<0:=by omega
  simp[ba,fb.m,fb.b,ab,e1,d1,fT,c1]
 have d1:¬(l.length:Int)-4<0:=by omega
 by_cases c2:l.length≤20004;rotate_left
 ·have d2:20000<(l.length:Int)-4:=by omega
  simp[ba,fb.m,fb.b,ab,e1,d1,d2,fT,c1,c2]
 have d2:¬20000<(l.length:Int)-4:=by omega
 have h1:=jE.al h.2.1 (l.take (l.length-4)) (by simp;omega);have h2:=iu.al h.2.2 (sumOf (l.take (l.length-4)));have e2:((l.length:Int)-4).toNat=l.length-4:=by omega
 have e3:(0:Int)≤(l.length:Int)-4:=by omega
 have e3':(4:Int)≤(l.length:Int):=by omega
 have e4:l.length-4≤l.length:=by omega
 by_cases c3:l.drop (l.length-4)=four (sumOf (l.take (l.length-4)))
 ·simp[ba,fb.m,fb.b,ab,e1,d1,d2,e2,e3',e4,h1,h2,fT,c1,c2,c3]
 ·simp[ba,fb.m,fb.b,ab,e1,d1,d2,e2,e3',e4,h1,h2,fT,c1,c2,c3]
theorem E9(l:List UInt8)(n:Nat)(h:n+4=l.length):l.drop n=[l[n],l[n+1],l[n+2],l[n+3]]:=by
 apply List.ext_getElem
 ·simp;omega
 ·intro i h1 h2;simp at h2;have:i=0∨i=1∨i=2∨i=3:=by omega
  rcases this with rfl|rfl|rfl|rfl<;>simp
theorem fe.al(h:fe.k M)(l:List UInt8)(hl:l.length≤4611686018427387904):run M 168 [.c (S l)] []=some (.lN [.c (S (fT l).1),.c (.bool (fT l).2)],[]):=by
 obtain⟨h0,k1,k2,k3⟩:=h;have e1:IntKind.i64.wrap ((l.length:Int)-4)=(l.length:Int)-4:=wrap_i64 (by omega) (by omega);have hw:=bV.al k1 ((l.length:Int)-4) 0 20000;refine aA (b:=fe.m) h0 ⟨0, ?_⟩;by_cases c:4≤l.length∧l.length≤20004;rotate_left
 ·have hb:(decide ((0:Int)≤(l.length:Int)-4)&&decide ((l.length:Int)-4≤20000))=false:=by
   rw[Bool.eq_false_iff];intro hh;simp only[aj,decide_eq_true_eq] at hh;omega
  rw[hb] at hw;have:fT l=([],false):=by unfold fT;rw[if_neg (fun q=>c ⟨q.1,q.2.1⟩)]
  simp[ba,fe.m,fe.b,ab,e1,hw,this]
 obtain⟨c1,c2⟩:=c;have hb:(decide ((0:Int)≤(l.length:Int)-4)&&decide ((l.length:Int)-4≤20000))=true:=by
  simp only[aj,decide_eq_true_eq];omega
 rw[hb] at hw;have h1:=jH.al k2 (l.take (l.length-4)) (by simp;omega);have hin:=AQ (l.take (l.length-4));have h2:=ij.al k3 l (l.length-4) (by omega) hl;rw[show ((l.length-4:Nat):Int)=(l.length:Int)-4 by omega] at h2;have hd:=E9 l (l.length-4) (by omega);have hq:=Jw hin (l[l.length-4]'(by omega)) (l[l.length-4+1]'(by omega)) (l[l.length-4+2]'(by omega)) (l[l.length-4+3]'(by omega));rw[←hd] at hq;have e2:((l.length:Int)-4).toNat=l.length-4:=by omega
 have e3:(0:Int)≤(l.length:Int)-4:=by omega
 have e3':(4:Int)≤(l.length:Int):=by omega
 have e4:l.length-4≤l.length:=by omega
 have e5:IntKind.i64.wrap (sumOf (l.take (l.length-4)))=sumOf (l.take (l.length-4)):=wrap_i64 (by have:=hin.1;omega) (by have:=hin.2;omega);unfold fT;generalize x7 (l[l.length-4]'(by omega)) (l[l.length-4+1]'(by omega)) (l[l.length-4+2]'(by omega)) (l[l.length-4+3]'(by omega))=z at h2 hq;by_cases c3:l.drop (l.length-4)=four (sumOf (l.take (l.length-4)))
 ·have c4:=hq.1 c3.symm;have e6:IntKind.i64.wrap (z:Int)=z:=by rw[c4] at e5;exact e5
  rw[if_pos ⟨c1,c2,c3⟩];simp[ba,fe.m,fe.b,ab,e1,hw,e2,e3',e4,h1,h2,c4,e6]
 ·have c4:¬sumOf (l.take (l.length-4))=z:=fun q=>c3 (hq.2 q).symm
  rw[if_neg (fun q=>c3 q.2.2)];simp[ba,fe.m,fe.b,ab,e1,hw,e2,e3',e4,h1,h2,e5,c4]
theorem uS(l:List UInt8)(a:Nat):∀d k n r,mS l a d k n=some r→r.2.2=true→a<r.2.1∧r.2.1≤l.length∧gE r.1=(l.drop a).take (r.2.1-a)
 |0,k,n,r,h=>by simp[mS] at h
 |d+1,k,n,r,hr=>by
  intro hq;rw[mS] at hr;by_cases h:a+k<l.length
  ·rw[dif_pos h] at hr;split at hr
   ·simp only[aH] at hr;subst hr;split at hq
    ·rename_i hc;rw[if_pos hc];refine⟨by simp only;omega,by simp only;omega, ?_⟩;simp only;rw[hc.2];congr 1;omega
    ·cases hq
   ·exact uS l a d (k+1) _ r hr hq
  ·rw[dif_neg h] at hr;cases hr
theorem o8(l:List UInt8)(a:Int)(h:(c_ l a).2.2=true):∃m:Nat,a=m∧m<(c_ l a).2.1∧(c_ l a).2.1≤l.length∧(l.take (c_ l a).2.1).drop m=fK (c_ l a).1∧(c_ l a).1.length≤20000:=by
 unfold c_ at h ⊢;split at h
 ·rename_i hc;rw[if_pos hc];obtain⟨c1,c2,c3⟩:=hc;simp only;unfold fS at c1 c2 c3 ⊢;split at c1
  ·rename_i hr;rw[if_pos hr] at c2 c3 ⊢;obtain⟨m,rfl⟩:=h_ hr.1;simp only[fy] at c1 c2 c3 ⊢;cases hg:mS l m 5 0 0 with
   |none=>rw[hg] at c1;cases c1
   |some r=>
    rw[hg] at c1 c2 c3;simp only[jz] at c1 c2 c3 ⊢;obtain⟨q1,q2,q3⟩:=uS l m 5 0 0 r hg c1;refine⟨m,rfl,by omega,by omega, ?_,by simp;omega⟩;have hlen:((l.drop r.2.1).take r.1).length=r.1:=by simp;omega
    unfold fK;rw[hlen,q3,List.drop_take];have e1:r.2.1+r.1-m=(r.2.1-m)+r.1:=by omega
    rw[e1,List.take_add,List.drop_drop];congr 3;omega
  ·cases c1
 ·cases h
def recAt(l:List UInt8)(a:Int):List UInt8×Nat×Bool:=
 if(c_ l a).2.2=true∧(1≤(c_ l a).1.length∧(c_ l a).1.length≤6000)∧(c_ l a).2.1+4≤l.length∧(l.drop (c_ l a).2.1).take 4=four (sumOf (fK (c_ l a).1)) then((c_ l a).1,(c_ l a).2.1+4,true) else([],0,false)
theorem Ev(l:List UInt8)(m e:Nat)(h:m≤e)(he:e≤l.length):(l.take (e+4)).drop m=(l.take e).drop m++(l.drop e).take 4:=by
 rw[List.take_add,List.drop_append_of_le_length (by simp;omega)]
theorem dG.al(h:dG.k M)(l:List UInt8)(hl:l.length≤1048576)(a:Int):
  run M 105 [.c (S l),.c (I a)] []=some (.lN [.c (S (recAt l a).1),.c (I (recAt l a).2.1),.c (.bool (recAt l a).2.2)],[]):=by
 obtain⟨h0,k1,k2,k3⟩:=h;have h1:=dk.al k3 l (by omega) a;have hok:=o8 l a;refine aA (b:=dG.m) h0 ⟨0, ?_⟩;unfold recAt;generalize (c_ l a).1=t at*;generalize (c_ l a).2.1=e at*;generalize (c_ l a).2.2=ok at*;cases ok with
 |false=>simp[ba,dG.m,dG.b,ab,h1]
 |true=>
  obtain⟨m,rfl,p1,p2,p3,p4⟩:=hok rfl;have hw:=bV.al k1 t.length 1 6000;by_cases c2:1≤t.length∧t.length≤6000;rotate_left
  ·have hb:(decide ((1:Int)≤t.length)&&decide ((t.length:Int)≤6000))=false:=by
    rw[Bool.eq_false_iff];intro hh;simp only[aj,decide_eq_true_eq] at hh;omega
   rw[hb] at hw;simp[ba,dG.m,dG.b,ab,h1,hw,c2]
  have hb:(decide ((1:Int)≤t.length)&&decide ((t.length:Int)≤6000))=true:=by
   simp only[aj,decide_eq_true_eq];omega
  rw[hb] at hw;have e1:IntKind.i64.wrap ((l.length:Int)-e)=(l.length:Int)-e:=wrap_i64 (by omega) (by omega);by_cases c1:e+4≤l.length;rotate_left
  ·have c1':(l.length:Int)-e<4:=by omega
   simp[ba,dG.m,dG.b,ab,h1,hw,c2,e1,c1,c1']
  have c1':¬(l.length:Int)-e<4:=by omega
  have hv:=jc (n:=t.length) (by omega);have hsl:(fK t).length≤6010:=by simp[fK];omega
  have e2:IntKind.i64.wrap ((e:Int)+4)=(e:Int)+4:=wrap_i64 (by omega) (by omega);have e3:((e:Int)+4).toNat=e+4:=by omega
  have e4:(0:Int)≤(e:Int)+4:=by omega
  have e5:m≤e+4:=by omega
  have hx:=Ev l m e (by omega) p2;rw[p3] at hx;have hx':List.take (e+4-m) (List.drop m l)=fK t++(l.drop e).take 4:=by rw[←hx,List.drop_take]
  have hw4:((l.drop e).take 4).length=4:=by simp;omega
  have h2:=fe.al k2 (fK t++(l.drop e).take 4) (by simp;omega);have hu:(fT (fK t++(l.drop e).take 4)).2=decide ((l.drop e).take 4=four (sumOf (fK t))):=by
   have q1:(fK t++(l.drop e).take 4).length-4=(fK t).length:=by rw[ax,hw4];omega
   unfold fT;rw[q1,List.take_left' rfl,List.drop_left' rfl];by_cases c:(l.drop e).take 4=four (sumOf (fK t))
   ·rw[if_pos ⟨by rw[ax,hw4];omega,by rw[ax,hw4];omega,c⟩];simp[c]
   ·rw[if_neg (fun q=>c q.2.2)];simp[c]
  rw[hu] at h2;generalize (fT (fK t++(l.drop e).take 4)).1=u at h2;clear hu hw4;generalize (l.drop e).take 4=w at*;generalize four (sumOf (fK t))=f at*;generalize fK t=s at*;by_cases c3:w=f
  ·subst c3;simp at h2;simp[ba,dG.m,dG.b,ab,h1,hw,e1,c1,c1',c2,h2,e2,e3,e4,e5,hx]
  ·simp[c3] at h2;simp[ba,dG.m,dG.b,ab,h1,hw,e1,c1,c1',c2,h2,e2,e3,e4,e5,hx,c3]
def Jz(d:Nat):UInt8:=UInt8.ofNat (48+d)
def yf(m:Nat)(acc:List UInt8):List UInt8:=if m=0 then acc else yf (m/10) (Jz (m%10)::acc)
termination_by m
decreasing_by omega
theorem sI(acc:List UInt8):yf 0 acc=acc:=by rw[yf];simp
theorem vk{m:Nat}(h:m≠0)(acc:List UInt8):yf m acc=yf (m/10) (Jz (m%10)::acc):=by rw[yf,if_neg h]
def dec(n:Int):List UInt8:=if n=0 then [48] else(if n<0 then [45] else [])++yf n.natAbs []
theorem ye:∀(k m:Nat) (acc:List UInt8),m<10^k→(yf m acc).length≤acc.length+k:=by
 intro k
 induction k with
 |zero=>intro m acc h;have:m=0:=by simpa using h
        subst this;rw[sI];omega
 |succ k ih=>
  intro m acc h;by_cases h0:m=0
  ·subst h0;rw[sI];omega
  ·rw[vk h0];have:=ih (m/10) (Jz (m%10)::acc) (by rw[Nat.pow_succ] at h;omega);simp at this;omega
theorem DX{n:Int}(h: -9223372036854775808≤n)(h':n≤9223372036854775807):(dec n).length≤21:=by
 unfold dec;have:=ye 20 n.natAbs [] (by omega);simp at this;split
 ·simp
 ·split<;>simp<;>omega
theorem gX.al(h:gX.k M)(d:Nat)(hd:d<10):run M 247 [.c (I d)] []=some (.c (U8 (Jz d).toNat),[]):=by
 refine aA (b:=gX.m) h ⟨0, ?_⟩;have e0:(d:Int)<10:=by omega
 have e1:IntKind.i64.wrap (48+(d:Int))=48+(d:Int):=wrap_i64 (by omega) (by omega);have e2:IntKind.u8.wrap (48+(d:Int))=((Jz d).toNat:Int):=by
  unfold IntKind.wrap;simp[IntKind.bits,IntKind.signed,Jz]<;>omega
 simp[ba,gX.m,gX.b,ab,e0,e1,e2]
def xg(b:Bool)(s:Int×List UInt8)(x:Nat):St:={t:=[(0,.c (I s.1)),(3,.c (.bool b)),(4,.c (S s.2))],o:=[],n:=x}
def vl(s:Int×List UInt8):Prop:= -9223372036854775808≤s.1∧s.1≤9223372036854775807∧∃k,s.1.natAbs<10^k∧s.2.length+k≤20
theorem wg{n:Int}{acc:List UInt8}(h:vl (n,acc))(h0:n≠0)(b:UInt8):vl (n.tdiv 10,b::acc):=by
 obtain⟨h1,h2,k,h3,h4⟩:=h;simp only at h1 h2 h3 h4;have e:(n.tdiv 10).natAbs=n.natAbs/10:=by rw[Int.natAbs_tdiv];rfl
 cases k with
 |zero=>simp at h3;omega
 |succ k=>exact⟨by simp only;omega,by simp only;omega,k,by simp only;rw[e];rw[Nat.pow_succ] at h3;omega,by simp;omega⟩
theorem tT(n:Int):n.tmod 10=(n.natAbs%10:Nat)∨(n.tmod 10<0∧n.tmod 10= - (n.natAbs%10:Nat)):=by
 have e:(n.tmod 10).natAbs=n.natAbs%10:=by rw[Int.natAbs_tmod];rfl
 omega
theorem db.round(h:db.k M)(k:Nat)(b:Bool)(s:Int×List UInt8)(x:Nat)(hi:vl s)(h0:s.1≠0):
  ∃y,ct (run M) k db.l0 (xg b s x)=some (.normal,xg b (s.1.tdiv 10,Jz (s.1.natAbs%10)::s.2) y):=by
 obtain⟨n,acc⟩:=s;obtain⟨h1,h2,k',h3,h4⟩:=hi;simp only at h0 h1 h2 h3 h4;have hf:=gX.al h.2 (n.natAbs%10) (by omega);have ed:(n.tdiv 10).natAbs=n.natAbs/10:=by rw[Int.natAbs_tdiv];rfl
 have e1:IntKind.i64.wrap (n.tdiv 10)=n.tdiv 10:=wrap_i64 (by omega) (by omega);have e2:acc.length+1≤4611686018427387904:=by omega
 have e3:1+acc.length≤4611686018427387904:=by omega
 rcases tT n with ht|⟨ht0,ht⟩
 ·have e0:¬(((n.natAbs%10:Nat):Int)<0):=by omega
  generalize n.natAbs%10=d at*;simp only[xg,db.l0];simp (disch:=(first|omega|(simp;done)|(simp;omega))) [h0,ht,hf,e1,e0,bL,mF]
 ·have e0:n.tmod 10<0:=ht0;have e4:IntKind.i64.wrap (0-n.tmod 10)=((n.natAbs%10:Nat):Int):=by rw[wrap_i64 (by omega) (by omega)];omega
  generalize n.natAbs%10=d at*;simp only[xg,db.l0];simp only[Int.zero_sub] at e4;simp (disch:=(first|omega|(simp;done)|(simp;omega))) [h0,e0,e4,hf,e1,bL,mF]
theorem db.al(h:db.k M)(n:Int)(hn: -9223372036854775808≤n)(hn':n≤9223372036854775807):run M 197 [.c (I n)] []=some (.c (S (dec n)),[]):=by
 refine aA (b:=db.m) h.1 ⟨n.natAbs+1, ?_⟩;by_cases h0:n=0
 ·simp[ba,db.m,db.b,ab,h0,dec]
 obtain⟨g,hr⟩:=jS (f:=ct (run M) (n.natAbs+1) db.l0) (xg (decide (n<0))) vl (fun s=>s.1.natAbs) (fun s=>yf s.1.natAbs s.2)
  (fun q m=>(.exit 0,{t:=[(0,.c (I 0)),(3,.c (.bool (decide (n<0)))),(4,.c (S q)),(11,.c (.bool false))],o:=[],n:=m}))
  (by
   intro s x hi;by_cases hs:s.1=0
   ·right;exact⟨x+32,by simp[xg,db.l0,hs,sI],by simp⟩
   ·left;obtain⟨y,hy⟩:=db.round h (n.natAbs+1) (decide (n<0)) s x hi hs;have e:(s.1.tdiv 10).natAbs=s.1.natAbs/10:=by rw[Int.natAbs_tdiv];rfl
    refine⟨_,y,hy,wg hi hs _,by simp only;omega, ?_⟩;simp only[e];exact(vk (by omega) _).symm)
  (n.natAbs+1) (n,[]) ⟨hn,hn',20,by simp only;omega,by simp⟩ (by simp only;omega)
 have hl:=ye 20 n.natAbs [] (by omega);simp[xg] at hr hl;by_cases hneg:n<0
 ·simp[hneg] at hr;simp (disch:=(first|omega|(simp;done)|(simp;omega))) [ba,db.m,db.b,ab,h0,dec,hneg,hr,bL]
 ·simp[hneg] at hr;simp (disch:=(first|omega|(simp;done)|(simp;omega))) [ba,db.m,db.b,ab,h0,dec,hneg,hr]
def zq(n:Int)(s:Int×List UInt8)(x:Nat):St:={t:=[(0,.c (I n)),(3,.c (S s.2)),(4,.c (I s.1))],o:=[],n:=x}
theorem Lr:∀d:Nat,d<10→∃h:d<16,([48,49,50,51,52,53,54,55,56,57,97,98,99,100,101,102]:List UInt8)[d]=Jz d:=by decide
theorem dx.round(k:Nat)(n0:Int)(s:Int×List UInt8)(x:Nat)(hi:vl s)(h0:s.1≠0):
  ∃y,ct (run M) k dx.l0 (zq n0 s x)=some (.normal,zq n0 (s.1.tdiv 10,Jz (s.1.natAbs%10)::s.2) y):=by
 obtain⟨n,acc⟩:=s;obtain⟨h1,h2,k',h3,h4⟩:=hi;simp only at h0 h1 h2 h3 h4;have ed:(n.tdiv 10).natAbs=n.natAbs/10:=by rw[Int.natAbs_tdiv];rfl
 have e1:IntKind.i64.wrap (n.tdiv 10)=n.tdiv 10:=wrap_i64 (by omega) (by omega);have e2:acc.length+1≤4611686018427387904:=by omega
 have e3:1+acc.length≤4611686018427387904:=by omega
 have hd:n.natAbs%10<10:=by omega
 have e5:IntKind.i64.wrap (((n.natAbs%10:Nat):Int)+1)=((n.natAbs%10+1:Nat):Int):=wrap_i64 (by omega) (by omega);have e4:IntKind.i64.wrap (-(n.tmod 10))= -(n.tmod 10):=wrap_i64 (by have:=tT n;omega) (by have:=tT n;omega);have e6:(if n.tmod 10< -(n.tmod 10) then -(n.tmod 10) else n.tmod 10)=((n.natAbs%10:Nat):Int):=by
  rcases tT n with ht|⟨ht0,ht⟩<;>split<;>omega
 generalize n.natAbs%10=d at*;obtain⟨hd16,hfig⟩:=Lr d hd;have e7:=Cf ([48,49,50,51,52,53,54,55,56,57,97,98,99,100,101,102]:List UInt8) d hd16;rw[hfig] at e7;simp only[List.take_succ_cons] at e7;have e8:d+1≤16:=by omega
 have e9:(0:Int)≤(d:Int)+1:=by omega
 have e10:((d:Int)+1).toNat=d+1:=by omega
 simp only[zq,dx.l0];simp (disch:=(first|omega|(simp;done)|(simp;omega))) [h0,e4,e5,e6,e7,e8,e9,e10,e1,bL]
theorem dx.al(h:dx.k M)(n:Int)(hn: -9223372036854775808≤n)(hn':n≤9223372036854775807):run M 128 [.c (I n)] []=some (.c (S (dec n)),[]):=by
 refine aA (b:=dx.m) h ⟨n.natAbs+1, ?_⟩;by_cases h0:n=0
 ·simp[ba,dx.m,dx.b,ab,h0,dec]
 obtain⟨g,hr⟩:=jS (f:=ct (run M) (n.natAbs+1) dx.l0) (zq n) vl (fun s=>s.1.natAbs) (fun s=>yf s.1.natAbs s.2)
  (fun q m=>(.exit 0,{t:=[(0,.c (I n)),(3,.c (S q)),(4,.c (I 0)),(10,.c (.bool false))],o:=[],n:=m}))
  (by
   intro s x hi;by_cases hs:s.1=0
   ·right;exact⟨x+32,by simp[zq,dx.l0,hs,sI],by simp⟩
   ·left;obtain⟨y,hy⟩:=dx.round (n.natAbs+1) n s x hi hs;have e:(s.1.tdiv 10).natAbs=s.1.natAbs/10:=by rw[Int.natAbs_tdiv];rfl
    refine⟨_,y,hy,wg hi hs _,by simp only;omega, ?_⟩;simp only[e];exact(vk (by omega) _).symm)
  (n.natAbs+1) (n,[]) ⟨hn,hn',20,by simp only;omega,by simp⟩ (by simp only;omega)
 have hl:=ye 20 n.natAbs [] (by omega);simp[zq] at hr hl;by_cases hneg:n<0
 ·simp (disch:=(first|omega|(simp;done)|(simp;omega))) [ba,dx.m,dx.b,ab,h0,dec,hneg,hr,bL]
 ·simp (disch:=(first|omega|(simp;done)|(simp;omega))) [ba,dx.m,dx.b,ab,h0,dec,hneg,hr]
def om(l:List (List UInt8)):List (List T):=l.map fun s=>[S s]
theorem tV(l:List (List UInt8)):(om l).length=l.length:=by simp[om]
theorem Dv(l:List (List UInt8))(i:Nat)(h:i<(om l).length):(om l)[i]=[S (l[i]'(by simpa [om] using h))]:=by simp[om]
theorem AU(a b:List (List UInt8)):om a++om b=om (a++b):=by simp[om]
theorem F8:om []=[]:=rfl
theorem EA(l:List (List UInt8))(n:Nat):(om l).take n=om (l.take n):=by simp[om]
theorem EB(l:List (List UInt8))(s:List UInt8):om l++[[S s]]=om (l++[s]):=by simp[om]
theorem EC(l:List (List UInt8)):(om l).all (fun r=>r.all T.scalar)=true:=by
 simp only[om,List.all_map,gf];intro n _;rfl
attribute [simp] tV Dv AU F8 EA EC
def mX(l:List UInt8):Nat→Nat→List (List UInt8)→List (List UInt8)×Nat
 |0,a,acc=>(acc,a)
 |d+1,a,acc=>if(recAt l a).2.2=true then mX l d (recAt l a).2.1 (acc++[(recAt l a).1]) else(acc,a)
def nv(l:List UInt8):List (List UInt8)×Nat:=mX l (l.length+1) 0 []
theorem xu(l:List UInt8)(a:Nat)(h:(recAt l a).2.2=true):a<(recAt l a).2.1∧(recAt l a).2.1≤l.length:=by
 unfold recAt at h ⊢;split at h
 ·rename_i c;rw[if_pos c];obtain⟨m,e,h1,h2,_⟩:=o8 l a c.1;have:m=a:=by omega
  subst this;exact⟨by simp only;omega,c.2.2.1⟩
 ·cases h
theorem qa(l:List UInt8):∀d a acc,a≤l.length→acc.length≤a→(mX l d a acc).1.length≤l.length∧(mX l d a acc).2≤l.length
 |0,a,acc,h,h'=>⟨by simp only[mX];omega,h⟩
 |d+1,a,acc,h,h'=>by
  rw[mX];by_cases c:(recAt l a).2.2=true
  ·rw[if_pos c];have:=xu l a c;exact qa l d _ _ this.2 (by simp;omega)
  ·rw[if_neg c];exact⟨by simp only;omega,h⟩
def AV(l:List UInt8)(s:Nat×Nat×List (List UInt8))(x:Nat×Nat):St:={t:=[(0,.c (S l)),(4,.c (.row 9 x.1 0 s.2.2.length)),(5,.c (I s.2.1))],o:=[(9,⟨x.1,1,true,false,om s.2.2⟩)],n:=x.2}
def MA(l:List UInt8)(s:Nat×Nat×List (List UInt8)):Prop:=s.2.1≤l.length∧l.length<s.2.1+s.1∧s.2.2.length≤s.2.1
def zf(q:List (List UInt8)×Nat)(m:Nat×Nat):Out×St:=(.ret,{t:=[(2,.c (.row 9 m.1 0 q.1.length)),(3,.c (I q.2))],o:=[(9,⟨m.1,1,true,false,om q.1⟩)],n:=m.2})
theorem IA(num:Nat)(l0:C)(l:List UInt8)(hl:l.length≤1048576)
  (hgo:∀a acc v x,(recAt l (a:Nat)).2.2=true→acc.length≤4294967295→∃y,ct (run M) (l.length+2) l0 (AV l (num,a,acc) (v,x))=some (.normal,AV l (num,(recAt l a).2.1,acc++[(recAt l a).1]) y))
  (hend:∀a acc v x,(recAt l (a:Nat)).2.2=false→∃y,ct (run M) (l.length+2) l0 (AV l (num,a,acc) (v,x))=some (zf (acc,a) y)):
  ∃g:Nat×Nat→Nat×Nat,∀x,eZ (ct (run M) (l.length+2) l0) (l.length+2) (AV l (l.length+1,0,[]) x)=some (zf (nv l) (g x)):=by
 refine jS (f:=ct (run M) (l.length+2) l0) (AV l) (MA l) (fun s=>s.1) (fun s=>mX l s.1 s.2.1 s.2.2) zf ?_ (l.length+2) (l.length+1,0,[]) ⟨by simp,by simp,by simp⟩ (by simp);rintro ⟨d,a,acc⟩ ⟨v,x⟩ ⟨h1,h2,h3⟩;simp only at h1 h2 h3;cases d with
 |zero=>omega
 |succ d=>
  by_cases c:(recAt l a).2.2=true
  ·left;obtain⟨y,hy⟩:=hgo a acc v x c (by omega);have hle:=xu l a c;exact⟨(d,(recAt l a).2.1,acc++[(recAt l a).1]),y,hy,⟨hle.2,by simp only;omega,by simp;omega⟩,by simp,by simp only[mX,c,if_true]⟩
  ·right;obtain⟨y,hy⟩:=hend a acc v x (by simpa using c);exact⟨y,by simp only[mX,c];exact hy,by simp[zf]⟩
theorem cR.al(h:cR.k M)(l:List UInt8)(hl:l.length≤1048576):run M 13 [.c (S l)] []=some (.lN [.c (.sl true 1 (om (nv l).1)),.c (I (nv l).2)],[]):=by
 refine aA (b:=cR.m) h.1 ⟨l.length+2, ?_⟩;obtain⟨g,hr⟩:=IA (M:=M) 0 cR.l0 l hl
  (fun a acc v x c hc=>by
   have h1:=dG.al h.2 l hl a;rw[c] at h1;have e:acc.length+1≤4294967296:=by omega
   simp only[aE];simp[AV,cR.l0,h1,e,EB,aa])
  (fun a acc v x c=>by
   have h1:=dG.al h.2 l hl a;rw[c] at h1;simp only[aE];simp[AV,zf,cR.l0,h1])
 simp[AV,zf] at hr;simp[ba,cR.m,cR.b,ab,hr,aa]
def MJ(k:Nat):List UInt8:=109::yf k []
def marks(k:Nat):Nat→List (List UInt8)
 |0=>[]
 |n+1=>marks k n++[MJ (k+n)]
theorem ER(k n:Nat):(marks k n).length=n:=by
 induction n with
 |zero=>rfl
 |succ n ih=>simp[marks,ih]
attribute [simp] ER
structure nE where
 val:Int
 time:Int
 df:Int
structure bp where
 gid:Int
 uid:Int
 flags:List nE
 text:List UInt8
structure bA where
 gid:Int
 name:List UInt8
 time:Int
 df:Int
 next:Int
 ae:List bp
 gone:List Int
abbrev aS(r:nE):List T:=[I r.val,I r.time,I r.df]
abbrev jM(l:List nE):T:= .sl false 3 (l.map aS)
abbrev ah(m:bp):List T:=[I m.gid,I m.uid,jM m.flags,S m.text]
abbrev ae(l:List bp):T:= .sl false 4 (l.map ah)
abbrev af(b:bA):List T:=[I b.gid,S b.name,I b.time,I b.df,I b.next,ae b.ae,ints b.gone]
abbrev jg(m:bp):List T:=[I m.gid,I m.uid,.sl true 3 (m.flags.map aS),S m.text]
abbrev cm(b:bA):List T:=[I b.gid,S b.name,I b.time,I b.df,I b.next,.sl true 4 (b.ae.map ah),.sl true 1 (az b.gone)]
theorem Jt{k:IntKind}{u:T}(h:Has (.int k) u):∃n,u= .int k n:=by cases h;exact⟨_,rfl⟩
def C8(l:List bp)(g:Int):Nat→Nat→Option Nat
 |0,_=>none
 |d+1,i=>if h:i<l.length then(if l[i].gid=g then some i else C8 l g d (i+1)) else none
def gg(l:List bp)(g:Int):Option Nat:=C8 l g l.length 0
def dO:Option Nat→Int
 |some i=>i
 |none=> -1
theorem vv(l:List bp)(g:Int):∀d i k,C8 l g d i=some k→k<l.length
 |0,i,k,h=>by simp[C8] at h
 |d+1,i,k,h=>by
  rw[C8] at h;by_cases hl:i<l.length
  ·rw[dif_pos hl] at h;split at h
   ·cases h;exact hl
   ·exact vv l g d (i+1) k h
  ·rw[dif_neg hl] at h;cases h
def j6(q:Option Nat)(m:St):Out×St:=match q with
 |some i=>(.ret,{t:=[(4,.c (I i))],o:=[],n:=m.n})
 |none=>(.exit 0,m)
theorem pL(q:Option Nat)(m:St):(j6 q m).1≠.normal:=by cases q<;>simp[j6]
theorem D4{f:St→Option (Out×St)}{β:Type}(l:List bp)(g:Int)(S:Nat→β→St)
  (h1:∀i (h:i<l.length) x,l[i].gid=g→∃m,f (S i x)=some (j6 (some i) m)) (h2:∀i (h:i<l.length) x,¬l[i].gid=g→∃y,f (S i x)=some (.normal,S (i+1) y))
  (h3:∀x,∃m,f (S l.length x)=some (j6 none m)):∃g':β→St,∀x,eZ f (l.length+1) (S 0 x)=some (j6 (gg l g) (g' x)):=by
 refine jS (f:=f) S (fun i=>i≤l.length) (fun i=>l.length-i) (fun i=>C8 l g (l.length-i) i) j6 ?_ (l.length+1) 0 (Nat.zero_le _) (by omega);intro i x hi;by_cases hlt:i<l.length
 ·have hd:l.length-i=(l.length-(i+1))+1:=by omega
  have hg:C8 l g (l.length-i) i=if l[i].gid=g then some i else C8 l g (l.length-(i+1)) (i+1):=by rw[hd,C8,dif_pos hlt]
  simp only[hg];by_cases c:l[i].gid=g
  ·right;obtain⟨m,hm⟩:=h1 i hlt x c;rw[if_pos c];exact⟨m,hm,pL _ _⟩
  ·left;obtain⟨y,hy⟩:=h2 i hlt x c;rw[if_neg c];exact⟨i+1,y,hy,hlt,by omega,rfl⟩
 ·have:i=l.length:=by omega
  subst this;right;obtain⟨m,hm⟩:=h3 x;simp only[Nat.sub_self,C8];exact⟨m,hm,pL _ _⟩
def za(b:bA)(g:Int)(i:Nat)(x:Nat×Nat):St:={t:=[(1,.c (I g)),(2,.c (.ptr 2 x.1 0 0)),(5,.c (I i))],o:=[(2,⟨x.1,7,true,true,[af b]⟩)],n:=x.2}
theorem bT.al(h:bT.k M)(b:bA)(g:Int)(hb:b.ae.length≤1048576):run M 91 [.a (af b),.c (I g)] []=some (.c (I (dO (gg b.ae g))),[]):=by
 refine aA (b:=bT.m) h ⟨b.ae.length+1, ?_⟩;obtain⟨g',hr⟩:=D4 (f:=ct (run M) (b.ae.length+1) bT.l0) b.ae g (za b g)
  (fun i hi x c=>by
   obtain⟨v,x⟩:=x;simp[za,bT.l0,hi,c,ah,j6];exact⟨⟨[],[],_⟩,rfl⟩)
  (fun i hi x c=>by
   obtain⟨v,x⟩:=x;have e5:=cA (i:=i) (by omega);simp only[aE];simp[za,bT.l0,hi,c,ah,e5])
  (fun x=>by
   obtain⟨v,x⟩:=x;simp[za,bT.l0,j6])
 cases hm:gg b.ae g with
 |none=>
  simp[za,hm,j6] at hr;simp[ba,bT.m,bT.b,ab,hr,dO]
 |some k=>
  simp[za,hm,j6] at hr;simp[ba,bT.m,bT.b,ab,hr,dO]
theorem gS.al(h:gS.k M)(m:bp)(g:Int):run M 160 [.a (ah m),.c (.vp [I g] 0)] []=some (.c (.bool (decide (m.gid=g))),[]):=by
 refine aA (b:=gS.m) h ⟨0, ?_⟩;simp[ba,gS.m,gS.b,ab]
def Mg(l:List bp)(g:Int)(i:Nat)(x:Nat):St:={t:=[(0,.c (ae l)),(1,.c (.fn 160 [.vp [I g] 0])),(7,.c (I l.length)),(8,.c (I i))],o:=[],n:=x}
theorem aC.al(h:aC.k M)(h2:gS.k M)(l:List bp)(g:Int)(hl:l.length≤1048576):
  run M 161 [.c (ae l),.c (.fn 160 [.vp [I g] 0])] []=some (.c (I (dO (gg l g))),[]):=by
 refine aA (b:=aC.m) h ⟨l.length+1, ?_⟩;obtain⟨g',hr⟩:=D4 (f:=ct (run M) (l.length+1) aC.l0) l g (Mg l g)
  (fun i hi x c=>by
   have hm:=gS.al h2 l[i] g;rw[decide_eq_true c] at hm;simp[Mg,aC.l0,hi,hm,ah,j6];exact⟨⟨[],[],_⟩,rfl⟩)
  (fun i hi x c=>by
   have hm:=gS.al h2 l[i] g;rw[decide_eq_false c] at hm;have e5:=cA (i:=i) (by omega);simp[Mg,aC.l0,hi,hm,ah,e5])
  (fun x=>by simp[Mg,aC.l0,j6])
 cases hm:gg l g with
 |none=>
  simp[Mg,hm,j6] at hr;simp[ba,aC.m,aC.b,ab,hr,dO]
 |some k=>
  simp[Mg,hm,j6] at hr;simp[ba,aC.m,aC.b,ab,hr,dO]
theorem cK.al(h:cK.k M)(b:bA)(g:Int)(hb:b.ae.length≤1048576):run M 72 [.a (af b),.c (I g)] []=some (.c (I (dO (gg b.ae g))),[]):=by
 have h1:=aC.al h.2.2 h.2.1 b.ae g hb;refine aA (b:=cK.m) h.1 ⟨0, ?_⟩;simp[ba,cK.m,cK.b,ab,h1]
def holds(b:bA)(g:Int):Bool:=decide (0≤dO (gg b.ae g))
theorem jq.al(h:jq.k M)(b:bA)(g:Int)(hb:b.ae.length≤1048576):run M 20 [.a (af b),.c (I g)] []=some (.c (.bool (holds b g)),[]):=by
 have h1:=cK.al h.2 b g hb;refine aA (b:=jq.m) h.1 ⟨0, ?_⟩;simp[ba,jq.m,jq.b,ab,h1,holds,aa]
end Mx
namespace Mx
open Go
def n_(p:Nat→Bool):Nat→Nat→Option Nat
 |0,_=>none
 |d+1,i=>if p i=true then some i else n_ p d (i+1)
def eJ(p:Nat→Bool)(n:Nat):Option Nat:=n_ p n 0
theorem v_(p:Nat→Bool):∀d i,n_ p d i=none→∀j,i≤j→j<i+d→p j=false
 |0,i,_,j,h1,h2=>by omega
 |d+1,i,h,j,h1,h2=>by
  rw[n_] at h;split at h
  ·cases h
  ·by_cases e:j=i
   ·subst e;simpa using ‹¬p j=true›
   ·exact v_ p d (i+1) h j (by omega) (by omega)
theorem vZ(p:Nat→Bool):∀d i k,n_ p d i=some k→i≤k∧k<i+d∧p k=true∧∀j,i≤j→j<k→p j=false
 |d+1,i,k,h=>by
  rw[n_] at h;split at h
  ·cases h;exact⟨by omega,by omega,‹_›,fun j h1 h2=>by omega⟩
  ·obtain⟨h1,h2,h3,h4⟩:=vZ p d (i+1) k h;refine⟨by omega,by omega,h3,fun j h5 h6=> ?_⟩;by_cases e:j=i
   ·subst e;simpa using ‹¬p j=true›
   ·exact h4 j (by omega) h6
theorem mg{p:Nat→Bool}{n:Nat}(h:eJ p n=none):∀j,j<n→p j=false:=fun j hj=>v_ p n 0 h j (by omega) (by omega)
theorem mf{p:Nat→Bool}{n k:Nat}(h:eJ p n=some k):k<n∧p k=true∧∀j,j<k→p j=false:=by
 obtain⟨_,h2,h3,h4⟩:=vZ p n 0 k h;exact⟨by omega,h3,fun j hj=>h4 j (by omega) hj⟩
theorem ju{p:Nat→Bool}{n:Nat}:eJ p n=none↔∀j,j<n→p j=false:=by
 refine⟨mg,fun h=> ?_⟩;cases q:eJ p n with
 |none=>rfl
 |some k=>
  obtain⟨h1,h2,_⟩:=mf q;rw[h k h1] at h2;cases h2
theorem m_{γ β:Type}(n:Nat)(p:Nat→Bool){f:St→Option (Out×St)}(S:Nat→β→St)(fin:Option Nat→γ→Out×St)(hfin:∀q m,(fin q m).1≠.normal)
  (h1:∀i,i<n→∀x,p i=false→∃y,f (S i x)=some (.normal,S (i+1) y)) (h2:∀i,i<n→∀x,p i=true→∃m,f (S i x)=some (fin (some i) m))
  (h3:∀x,∃m,f (S n x)=some (fin none m)):∃g:β→γ,∀x,eZ f (n+1) (S 0 x)=some (fin (eJ p n) (g x)):=by
 refine jS (f:=f) S (fun i=>i≤n) (fun i=>n-i) (fun i=>n_ p (n-i) i) fin ?_ (n+1) 0 (Nat.zero_le _) (by omega);intro i x hi;by_cases hlt:i<n
 ·have hd:n-i=(n-(i+1))+1:=by omega
  have hg:n_ p (n-i) i=if p i=true then some i else n_ p (n-(i+1)) (i+1):=by rw[hd,n_]
  simp only[hg];by_cases c:p i=true
  ·right;obtain⟨m,hm⟩:=h2 i hlt x c;rw[if_pos c];exact⟨m,hm,hfin _ _⟩
  ·left;obtain⟨y,hy⟩:=h1 i hlt x (by simpa using c);rw[if_neg c];exact⟨i+1,y,hy,hlt,by omega,rfl⟩
 ·have:i=n:=by omega
  subst this;right;obtain⟨m,hm⟩:=h3 x;simp only[Nat.sub_self,n_];exact⟨m,hm,hfin _ _⟩
theorem gT{f:St→Option (Out×St)}{n m:Nat}{s:St}{r:Out×St}(h:eZ f n s=some r)(hm:n≤m):eZ f m s=some r:=qT (fun _ _ h=>h) hm h
def lz{β:Type}(r:Nat)(w:T)(e:Nat)(E:β→St)(q:Option Nat)(m:β×Nat):Out×St:=match q with
 |none=>(.exit e,E m.1)
 |some _=>(.ret,{t:=[(r,.c w)],o:=[],n:=m.2})
theorem iN{β:Type}(n:Nat)(p:Nat→Bool){f:St→Option (Out×St)}(S:Nat→β→St)(r:Nat)(w:T)(e:Nat)(E:β→St)
  (h1:∀i,i<n→∀x,p i=false→∃y,f (S i x)=some (.normal,S (i+1) y)) (h2:∀i,i<n→∀x,p i=true→∃k,f (S i x)=some (.ret,{t:=[(r,.c w)],o:=[],n:=k}))
  (h3:∀x,∃y,f (S n x)=some (.exit e,E y)):∃g:β→β×Nat,∀x,eZ f (n+1) (S 0 x)=some (lz r w e E (eJ p n) (g x)):=
 m_ n p S (lz r w e E) (fun q m=>by cases q<;>simp[lz]) h1 (fun i hi x c=>by
  obtain⟨k,hk⟩:=h2 i hi x c;exact⟨(x,k),hk⟩) (fun x=>by
  obtain⟨y,hy⟩:=h3 x;exact⟨(y,0),hy⟩)
theorem jK{α σ β γ:Type}(l:List α)(step:σ→α→σ)(Inv:Nat→σ→Prop){f:St→Option (Out×St)}(S:Nat→σ→β→St)(e:Nat)(E:σ→γ→St)
  (hI:∀i (h:i<l.length) s,Inv i s→Inv (i+1) (step s l[i]))
  (h1:∀i (h:i<l.length) s x,Inv i s→∃y,f (S i s x)=some (.normal,S (i+1) (step s l[i]) y))
  (h3:∀s x,Inv l.length s→∃y,f (S l.length s x)=some (.exit e,E s y)) (s:σ) (h0:Inv 0 s):
  ∃g:β→γ,∀x,eZ f (l.length+1) (S 0 s x)=some (.exit e,E (l.foldl step s) (g x)):=by
 refine jS (f:=f) (fun p:Nat×σ=>S p.1 p.2) (fun p=>p.1≤l.length∧Inv p.1 p.2) (fun p=>l.length-p.1) (fun p=>(l.drop p.1).foldl step p.2) (fun q m=>(.exit e,E q m)) ?_ (l.length+1) (0,s) ⟨Nat.zero_le _,h0⟩ (by simp);rintro ⟨i,s⟩ x ⟨hi,hs⟩;simp only at hi hs;by_cases hlt:i<l.length
 ·left;obtain⟨y,hy⟩:=h1 i hlt s x hs;refine⟨(i+1,step s l[i]),y,hy,⟨hlt,hI i hlt s hs⟩,by simp only;omega, ?_⟩;simp only;rw[bD hlt,fa]
 ·have:i=l.length:=by omega
  subst this;right;obtain⟨y,hy⟩:=h3 s x hs;exact⟨y,by simp[hy],by simp⟩
theorem vf{α σ:Type}(l:List α)(step:σ→α→σ)(Inv:Nat→σ→Prop)(hI:∀i (h:i<l.length) s,Inv i s→Inv (i+1) (step s l[i])):∀s,Inv 0 s→Inv l.length (l.foldl step s):=by
 have key:∀d i s,i+d=l.length→Inv i s→Inv l.length ((l.drop i).foldl step s):=by
  intro d
  induction d with
  |zero=>intro i s hi h;have:i=l.length:=by omega
         subst this;simpa using h
  |succ d ih=>
   intro i s hi h;have hlt:i<l.length:=by omega
   rw[bD hlt,fa];exact ih (i+1) _ (by omega) (hI i hlt s h)
 intro s h;simpa using key l.length 0 s (by omega) h
def texts{α:Type}(t:α→List UInt8)(l:List α):List UInt8:=l.flatMap t
theorem Cd{α:Type}(t:α→List UInt8)(l:List α)(s:List UInt8):l.foldl (fun s x=>s++t x) s=s++texts t l:=by
 induction l generalizing s with
 |nil=>simp[texts]
 |cons x l ih=>simp[ih,texts,cI]
theorem jJ{α:Type}(t:α→List UInt8)(l:List α)(c:Nat)(h:∀x∈l,(t x).length≤c):(texts t l).length≤l.length*c:=by
 induction l with
 |nil=>simp[texts]
 |cons x l ih=>
  have h1:=ih fun y hy=>h y (bo _ hy)
  have h2:=h x (bf ..);simp only[texts,cI,ax,bK] at h1 ⊢;have:(l.length+1)*c=l.length*c+c:=Nat.succ_mul _ _;omega
theorem nu{α β γ:Type}(l:List α)(t:α→List UInt8)(c a:Nat)(hc:∀x∈l,(t x).length≤c){f:St→Option (Out×St)}(S:Nat→List UInt8→β→St)(e:Nat)(E:List UInt8→γ→St)
  (h1:∀i (h:i<l.length) s x,s.length≤a+i*c→∃y,f (S i s x)=some (.normal,S (i+1) (s++t l[i]) y))
  (h3:∀s x,∃y,f (S l.length s x)=some (.exit e,E s y)) (s:List UInt8) (h0:s.length≤a):
  ∃g:β→γ,∀x,eZ f (l.length+1) (S 0 s x)=some (.exit e,E (s++texts t l) (g x)):=by
 have:=jK l (fun s x=>s++t x) (fun i s=>s.length≤a+i*c) S e E (fun i h s hs=>by
  have h2:=hc _ (aq h);have:(i+1)*c=i*c+c:=Nat.succ_mul _ _;simp only[ax];omega) h1 (fun s x _=>h3 s x) s (by simpa using h0)
 simpa only[Cd] using this
end Mx
namespace Mx
open Go
variable {M:Nat→Option Body}
def j_(a n b:Int):Bool:=decide (a≤n)&&decide (n≤b)
theorem bV.j_(h:bV.k M)(n a b:Int):run M 101 [.c (I n),.c (I a),.c (I b)] []=some (.c (.bool (j_ a n b)),[]):=bV.al h n a b
theorem bR.j_(h:bR.k M)(n a b:Int):run M 98 [.c (I n),.c (I a),.c (I b)] []=some (.c (.bool (j_ a n b)),[]):=bR.al h n a b
def kM(t w:Int):Bool:=j_ 0 t 100000&&j_ 0 w 2
theorem gI.al(h:gI.k M)(t w:Int):run M 164 [.a [I t,I w]] []=some (.c (.bool (kM t w)),[]):=by
 have h1:=bV.j_ h.2 t 0 100000;have h2:=bV.j_ h.2 w 0 2;refine aA (b:=gI.m) h.1 ⟨0, ?_⟩;cases c:j_ 0 t 100000<;>simp (maxSteps:=9^9) (disch:=(first|omega|(simp;done)|(simp;omega))) [ba,gI.m,gI.b,ab,h1,h2,c,kM]
theorem gG.al(h:gG.k M)(t w:Int):run M 183 [.a [I t,I w]] []=some (.c (.bool (kM t w)),[]):=by
 have h1:=bR.j_ h.2 t 0 100000;have h2:=bR.j_ h.2 w 0 2;refine aA (b:=gG.m) h.1 ⟨0, ?_⟩;cases c:j_ 0 t 100000<;>simp (maxSteps:=9^9) (disch:=(first|omega|(simp;done)|(simp;omega))) [ba,gG.m,gG.b,ab,h1,h2,c,kM]
def ot(r:nE):Bool:=kM r.time r.df&&j_ 0 r.val 1000000000
theorem jn.al(h:jn.k M)(r:nE):run M 272 [.a (aS r)] []=some (.c (.bool (ot r)),[]):=by
 have h1:=gI.al h.2.2 r.time r.df;have h2:=bV.j_ h.2.1 r.val 0 1000000000;refine aA (b:=jn.m) h.1 ⟨0, ?_⟩;cases c:kM r.time r.df<;>simp (maxSteps:=9^9) (disch:=(first|omega|(simp;done)|(simp;omega))) [ba,jn.m,jn.b,ab,aa,h1,h2,c,ot]
theorem jl.al(h:jl.k M)(r:nE):run M 276 [.a (aS r)] []=some (.c (.bool (ot r)),[]):=by
 have h1:=gG.al h.2.2 r.time r.df;have h2:=bR.j_ h.2.1 r.val 0 1000000000;refine aA (b:=jl.m) h.1 ⟨0, ?_⟩;cases c:kM r.time r.df<;>simp (maxSteps:=9^9) (disch:=(first|omega|(simp;done)|(simp;omega))) [ba,jl.m,jl.b,ab,aa,h1,h2,c,ot]
def ry(l:List nE)(i:Nat):Bool:=match l[i]? with
 |some r=> !ot r||decide (1<r.val)
 |none=>false
def lQ(l:List nE):Bool:=(eJ (ry l) l.length).isNone&&decide (l.length=3)
theorem oF{l:List nE}{i:Nat}(h:i<l.length):ry l i=(!ot l[i]||decide (1<l[i].val)):=by simp[ry,h]
def Lp(l:List nE)(i:Nat)(x:Nat):St:={t:=[(0,.c (jM l)),(5,.c (jM l)),(6,.c (I l.length)),(7,.c (I i))],o:=[],n:=x}
def OB(l:List nE)(x:Nat):St:={t:=[(0,.c (jM l)),(5,.c (jM l)),(6,.c (I l.length)),(7,.c (I l.length)),(8,.c (.bool false))],o:=[],n:=x}
theorem dL.al(h:dL.k M)(l:List nE)(hl:l.length≤1048576):run M 235 [.c (jM l)] []=some (.c (.bool (lQ l)),[]):=by
 refine aA (b:=dL.m) h.1 ⟨l.length+1, ?_⟩;obtain⟨g,hr⟩:=iN (f:=ct (run M) (l.length+1) dL.l0) l.length (ry l) (Lp l) 2 (.bool false) 0 (OB l)
  (fun i hi x c=>by
   have e5:=cA (i:=i) (by omega);have hm:=jn.al h.2 l[i];rw[oF hi] at c;simp at c;simp only[aS,c.1] at hm;have c2:¬(1:Int)<l[i].val:=by omega
   simp (maxSteps:=9^9) (disch:=(first|omega|(simp;done)|(simp;omega))) [dL.l0,aa,setAt,Lp,hi,hm,aS,c2,e5])
  (fun i hi x c=>by
   have hm:=jn.al h.2 l[i];rw[oF hi] at c;cases c1:ot l[i]
   ·simp only[aS,c1] at hm;simp (maxSteps:=9^9) (disch:=(first|omega|(simp;done)|(simp;omega))) [dL.l0,aa,setAt,Lp,hi,hm,aS]
   ·simp[c1] at c;simp only[aS,c1] at hm;simp (maxSteps:=9^9) (disch:=(first|omega|(simp;done)|(simp;omega))) [dL.l0,aa,setAt,Lp,hi,hm,aS,c])
  (fun x=>by simp (maxSteps:=9^9) (disch:=(first|omega|(simp;done)|(simp;omega))) [dL.l0,Lp,OB])
 cases q:eJ (ry l) l.length with
 |none=>
  simp[Lp,OB,q,lz] at hr;simp (maxSteps:=9^9) (disch:=(first|omega|(simp;done)|(simp;omega))) [ba,dL.m,dL.b,ab,hr,lQ,q];omega
 |some k=>
  simp[Lp,q,lz] at hr;simp (maxSteps:=9^9) (disch:=(first|omega|(simp;done)|(simp;omega))) [ba,dL.m,dL.b,ab,hr,lQ,q]
def KQ(l:List nE)(i:Nat)(x:Nat):St:={t:=[(0,.c (jM l)),(3,.c (I i))],o:=[],n:=x}
def Oh(l:List nE)(x:Nat):St:={t:=[(0,.c (jM l)),(3,.c (I l.length)),(7,.c (.bool false))],o:=[],n:=x}
theorem dJ.al(h:dJ.k M)(l:List nE)(hl:l.length≤1048576):run M 242 [.c (jM l)] []=some (.c (.bool (lQ l)),[]):=by
 refine aA (b:=dJ.m) h.1 ⟨l.length+1, ?_⟩;obtain⟨g,hr⟩:=iN (f:=ct (run M) (l.length+1) dJ.l0) l.length (ry l) (KQ l) 2 (.bool false) 0 (Oh l)
  (fun i hi x c=>by
   have e5:=cA (i:=i) (by omega);have hm:=jl.al h.2 l[i];rw[oF hi] at c;simp at c;simp only[aS,c.1] at hm;have c2:¬(1:Int)<l[i].val:=by omega
   simp (maxSteps:=9^9) (disch:=(first|omega|(simp;done)|(simp;omega))) [dJ.l0,aa,KQ,hi,hm,aS,c2,e5])
  (fun i hi x c=>by
   have hm:=jl.al h.2 l[i];rw[oF hi] at c;cases c1:ot l[i]
   ·simp only[aS,c1] at hm;simp (maxSteps:=9^9) (disch:=(first|omega|(simp;done)|(simp;omega))) [dJ.l0,aa,KQ,hi,hm,aS]
   ·simp[c1] at c;simp only[aS,c1] at hm;simp (maxSteps:=9^9) (disch:=(first|omega|(simp;done)|(simp;omega))) [dJ.l0,aa,KQ,hi,hm,aS,c])
  (fun x=>by simp (maxSteps:=9^9) (disch:=(first|omega|(simp;done)|(simp;omega))) [dJ.l0,KQ,Oh])
 cases q:eJ (ry l) l.length with
 |none=>
  simp[KQ,Oh,q,lz] at hr;simp (maxSteps:=9^9) (disch:=(first|omega|(simp;done)|(simp;omega))) [ba,dJ.m,dJ.b,ab,hr,lQ,q];omega
 |some k=>
  simp[KQ,q,lz] at hr;simp (maxSteps:=9^9) (disch:=(first|omega|(simp;done)|(simp;omega))) [ba,dJ.m,dJ.b,ab,hr,lQ,q]
theorem gD.al(h:gD.k M)(n:Int):run M 147 [.c (I n)] []=some (.c (.bool (j_ 1 n 9999)),[]):=by
 have h1:=bV.j_ h.2 n 1 9999;refine aA (b:=gD.m) h.1 ⟨0, ?_⟩;simp (maxSteps:=9^9) (disch:=(first|omega|(simp;done)|(simp;omega))) [ba,gD.m,gD.b,ab,h1]
def i_(m:bp):Bool:=j_ 1 m.gid 9999&&j_ 1 m.uid 9999&&lQ m.flags&&decide (m.text.length≤60)
theorem e_.al(h:e_.k M)(m:bp)(hl:m.flags.length≤1048576):run M 166 [.a (ah m)] []=some (.c (.bool (i_ m)),[]):=by
 have h1:=gD.al h.2.1 m.gid;have h2:=gD.al h.2.1 m.uid;have h3:=dL.al h.2.2 m.flags hl;refine aA (b:=e_.m) h.1 ⟨0, ?_⟩;cases c1:j_ 1 m.gid 9999
 ·simp (maxSteps:=9^9) (disch:=(first|omega|(simp;done)|(simp;omega))) [ba,e_.m,e_.b,ab,h1,c1,i_]
 cases c2:j_ 1 m.uid 9999
 ·simp (maxSteps:=9^9) (disch:=(first|omega|(simp;done)|(simp;omega))) [ba,e_.m,e_.b,ab,h1,h2,c1,c2,i_]
 cases c3:lQ m.flags
 ·simp (maxSteps:=9^9) (disch:=(first|omega|(simp;done)|(simp;omega))) [ba,e_.m,e_.b,ab,h1,h2,h3,c1,c2,c3,i_]
 simp (maxSteps:=9^9) (disch:=(first|omega|(simp;done)|(simp;omega))) [ba,e_.m,e_.b,ab,h1,h2,h3,c1,c2,c3,i_];omega
theorem d_.al(h:d_.k M)(m:bp)(hl:m.flags.length≤1048576):run M 187 [.a (ah m)] []=some (.c (.bool (i_ m)),[]):=by
 have h1:=bR.j_ h.2.1 m.gid 1 9999;have h2:=bR.j_ h.2.1 m.uid 1 9999;have h3:=dJ.al h.2.2 m.flags hl;refine aA (b:=d_.m) h.1 ⟨0, ?_⟩;cases c1:j_ 1 m.gid 9999
 ·simp (maxSteps:=9^9) (disch:=(first|omega|(simp;done)|(simp;omega))) [ba,d_.m,d_.b,ab,h1,c1,i_]
 cases c2:j_ 1 m.uid 9999
 ·simp (maxSteps:=9^9) (disch:=(first|omega|(simp;done)|(simp;omega))) [ba,d_.m,d_.b,ab,h1,h2,c1,c2,i_]
 cases c3:lQ m.flags
 ·simp (maxSteps:=9^9) (disch:=(first|omega|(simp;done)|(simp;omega))) [ba,d_.m,d_.b,ab,h1,h2,h3,c1,c2,c3,i_]
 simp (maxSteps:=9^9) (disch:=(first|omega|(simp;done)|(simp;omega))) [ba,d_.m,d_.b,ab,h1,h2,h3,c1,c2,c3,i_];omega
def rv(l:List UInt8)(i:Nat):Bool:=match l[i]? with
 |some b=>(decide ((b.toNat:Int)<97)||decide (122<(b.toNat:Int)))&&(decide ((b.toNat:Int)<48)||decide (57<(b.toNat:Int)))
 |none=>false
theorem rq{l:List UInt8}{i:Nat}(h:i<l.length):
  rv l i=((decide ((l[i].toNat:Int)<97)||decide (122<(l[i].toNat:Int)))&&(decide ((l[i].toNat:Int)<48)||decide (57<(l[i].toNat:Int)))):=by simp[rv,h]
def nF(l:List UInt8):Bool:=(eJ (rv l) l.length).isNone&&j_ 1 l.length 12
def As(l:List UInt8)(i:Nat)(x:Nat):St:={t:=[(0,.c (S l)),(3,.c (I i))],o:=[],n:=x}
def Ln(l:List UInt8)(x:Nat):St:={t:=[(0,.c (S l)),(3,.c (I l.length)),(7,.c (.bool false))],o:=[],n:=x}
theorem ev.al(h:ev.k M)(l:List UInt8)(hl:l.length≤4611686018427387904):run M 89 [.c (S l)] []=some (.c (.bool (nF l)),[]):=by
 have h1:=bV.j_ h.2 l.length 1 12;refine aA (b:=ev.m) h.1 ⟨l.length+1, ?_⟩;obtain⟨g,hr⟩:=iN (f:=ct (run M) (l.length+1) ev.l0) l.length (rv l) (As l) 2 (.bool false) 0 (Ln l)
  (fun i hi x c=>by
   have e5:=cA (i:=i) (by omega);rw[rq hi] at c;generalize hb:((l[i].toNat:Nat):Int)=b at c;by_cases c1:b<97
   ·by_cases c2:b<48
    ·simp[c1,c2] at c
    ·by_cases c3:57<b
     ·simp[c1,c2,c3] at c
     ·simp (maxSteps:=9^9) (disch:=(first|omega|(simp;done)|(simp;omega))) [ev.l0,dP,As,hi,e5,hb,c1,c2,c3]
   ·by_cases c4:122<b
    ·have c3:57<b:=by omega
     simp[c1,c4,c3] at c
    ·simp (maxSteps:=9^9) (disch:=(first|omega|(simp;done)|(simp;omega))) [ev.l0,dP,As,hi,e5,hb,c1,c4])
  (fun i hi x c=>by
   rw[rq hi] at c;generalize hb:((l[i].toNat:Nat):Int)=b at c;by_cases c1:b<97
   ·by_cases c2:b<48
    ·simp (maxSteps:=9^9) (disch:=(first|omega|(simp;done)|(simp;omega))) [ev.l0,dP,As,hi,hb,c1,c2]
    ·by_cases c3:57<b
     ·simp (maxSteps:=9^9) (disch:=(first|omega|(simp;done)|(simp;omega))) [ev.l0,dP,As,hi,hb,c1,c2,c3]
     ·simp[c1,c2,c3] at c
   ·by_cases c4:122<b
    ·have c2:¬b<48:=by omega
     have c3:57<b:=by omega
     simp (maxSteps:=9^9) (disch:=(first|omega|(simp;done)|(simp;omega))) [ev.l0,dP,As,hi,hb,c1,c2,c3,c4]
    ·simp[c1,c4] at c)
  (fun x=>by simp (maxSteps:=9^9) (disch:=(first|omega|(simp;done)|(simp;omega))) [ev.l0,As,Ln])
 cases q:eJ (rv l) l.length with
 |none=>
  simp[As,Ln,q,lz] at hr;simp (maxSteps:=9^9) (disch:=(first|omega|(simp;done)|(simp;omega))) [ba,ev.m,ev.b,ab,hr,nF,q,h1]
 |some k=>
  simp[As,q,lz] at hr;simp (maxSteps:=9^9) (disch:=(first|omega|(simp;done)|(simp;omega))) [ba,ev.m,ev.b,ab,hr,nF,q]
def zV(l:List UInt8)(i:Nat)(x:Nat):St:={t:=[(0,.c (S l)),(3,.c (I i))],o:=[],n:=x}
def KO(l:List UInt8)(x:Nat):St:={t:=[(0,.c (S l)),(3,.c (I l.length)),(7,.c (.bool false))],o:=[],n:=x}
theorem dZ.al(h:dZ.k M)(l:List UInt8)(hl:l.length≤4611686018427387904):run M 90 [.c (S l)] []=some (.c (.bool (nF l)),[]):=by
 have h1:=bR.j_ h.2 l.length 1 12;refine aA (b:=dZ.m) h.1 ⟨l.length+1, ?_⟩;obtain⟨g,hr⟩:=iN (f:=ct (run M) (l.length+1) dZ.l0) l.length (rv l) (zV l) 2 (.bool false) 0 (KO l)
  (fun i hi x c=>by
   have e5:=cA (i:=i) (by omega);rw[rq hi] at c;generalize hb:((l[i].toNat:Nat):Int)=b at c;by_cases c1:b<97
   ·by_cases c2:b<48
    ·simp[c1,c2] at c
    ·by_cases c3:57<b
     ·simp[c1,c2,c3] at c
     ·simp (maxSteps:=9^9) (disch:=(first|omega|(simp;done)|(simp;omega))) [dZ.l0,dP,zV,hi,e5,hb,c1,c2,c3]
   ·by_cases c4:122<b
    ·have c3:57<b:=by omega
     simp[c1,c4,c3] at c
    ·simp (maxSteps:=9^9) (disch:=(first|omega|(simp;done)|(simp;omega))) [dZ.l0,dP,zV,hi,e5,hb,c1,c4])
  (fun i hi x c=>by
   rw[rq hi] at c;generalize hb:((l[i].toNat:Nat):Int)=b at c;by_cases c1:b<97
   ·by_cases c2:b<48
    ·simp (maxSteps:=9^9) (disch:=(first|omega|(simp;done)|(simp;omega))) [dZ.l0,dP,zV,hi,hb,c1,c2]
    ·by_cases c3:57<b
     ·simp (maxSteps:=9^9) (disch:=(first|omega|(simp;done)|(simp;omega))) [dZ.l0,dP,zV,hi,hb,c1,c2,c3]
     ·simp[c1,c2,c3] at c
   ·by_cases c4:122<b
    ·have c2:¬b<48:=by omega
     have c3:57<b:=by omega
     simp (maxSteps:=9^9) (disch:=(first|omega|(simp;done)|(simp;omega))) [dZ.l0,dP,zV,hi,hb,c1,c2,c3,c4]
    ·simp[c1,c4] at c)
  (fun x=>by simp (maxSteps:=9^9) (disch:=(first|omega|(simp;done)|(simp;omega))) [dZ.l0,zV,KO])
 cases q:eJ (rv l) l.length with
 |none=>
  simp[zV,KO,q,lz] at hr;simp (maxSteps:=9^9) (disch:=(first|omega|(simp;done)|(simp;omega))) [ba,dZ.m,dZ.b,ab,hr,nF,q,h1]
 |some k=>
  simp[zV,q,lz] at hr;simp (maxSteps:=9^9) (disch:=(first|omega|(simp;done)|(simp;omega))) [ba,dZ.m,dZ.b,ab,hr,nF,q]
def tM(l:List Int)(i:Nat):Bool:=match l[i]? with
 |some g=> !j_ 1 g 9999||(decide (0<i)&&match l[i-1]? with|some f=>decide (g≤f)|none=>false)
 |none=>false
theorem oE{l:List Int}{i:Nat}(h:i<l.length):tM l i=(!j_ 1 l[i] 9999||(decide (0<i)&&decide (l[i]≤l[i-1]))):=by
 simp[tM,h,(show i-1<l.length by omega)]
def lZ(l:List Int)(most:Int):Bool:=(eJ (tM l) l.length).isNone&&decide ((l.length:Int)≤most)
def Kv(l:List Int)(most:Int)(i:Nat)(x:Nat):St:={t:=[(0,.c (ints l)),(1,.c (I most)),(7,.c (ints l)),(8,.c (I l.length)),(9,.c (I i))],o:=[],n:=x}
def OS(l:List Int)(most:Int)(x:Nat):St:={t:=[(0,.c (ints l)),(1,.c (I most)),(7,.c (ints l)),(8,.c (I l.length)),(9,.c (I l.length)),(10,.c (.bool false))],o:=[],n:=x}
theorem dw.al(h:dw.k M)(l:List Int)(most:Int)(hl:l.length≤4611686018427387904):run M 165 [.c (ints l),.c (I most)] []=some (.c (.bool (lZ l most)),[]):=by
 refine aA (b:=dw.m) h.1 ⟨l.length+1, ?_⟩;obtain⟨g,hr⟩:=iN (f:=ct (run M) (l.length+1) dw.l0) l.length (tM l) (Kv l most) 4 (.bool false) 0 (OS l most)
  (fun i hi x c=>by
   have e5:=cA (i:=i) (by omega);have hm:=gD.al h.2 l[i];rw[oE hi] at c;simp at c;simp only[c.1] at hm;by_cases c1:0<i
   ·have c2:¬l[i]≤l[i-1]:=by have:=c.2 c1;omega
    have e6:IntKind.i64.wrap ((i:Int)-1)=((i-1:Nat):Int):=by rw[wrap_i64 (by omega) (by omega)];omega
    simp (maxSteps:=9^9) (disch:=(first|omega|(simp;done)|(simp;omega))) [dw.l0,Kv,hi,hm,c1,c2,e5,e6]
   ·simp (maxSteps:=9^9) (disch:=(first|omega|(simp;done)|(simp;omega))) [dw.l0,Kv,hi,hm,c1,e5])
  (fun i hi x c=>by
   have hm:=gD.al h.2 l[i];rw[oE hi] at c;cases c1:j_ 1 l[i] 9999
   ·simp only[c1] at hm;simp (maxSteps:=9^9) (disch:=(first|omega|(simp;done)|(simp;omega))) [dw.l0,Kv,hi,hm]
   ·simp[c1] at c;obtain⟨c2,c3⟩:=c;simp only[c1] at hm;have e6:IntKind.i64.wrap ((i:Int)-1)=((i-1:Nat):Int):=by rw[wrap_i64 (by omega) (by omega)];omega
    simp (maxSteps:=9^9) (disch:=(first|omega|(simp;done)|(simp;omega))) [dw.l0,Kv,hi,hm,c2,c3,e6])
  (fun x=>by simp (maxSteps:=9^9) (disch:=(first|omega|(simp;done)|(simp;omega))) [dw.l0,Kv,OS])
 cases q:eJ (tM l) l.length with
 |none=>
  simp[Kv,OS,q,lz] at hr;simp (maxSteps:=9^9) (disch:=(first|omega|(simp;done)|(simp;omega))) [ba,dw.m,dw.b,ab,hr,lZ,q]
 |some k=>
  simp[Kv,q,lz] at hr;simp (maxSteps:=9^9) (disch:=(first|omega|(simp;done)|(simp;omega))) [ba,dw.m,dw.b,ab,hr,lZ,q]
def Kj(l:List Int)(most:Int)(i:Nat)(x:Nat):St:={t:=[(0,.c (ints l)),(1,.c (I most)),(5,.c (I i))],o:=[],n:=x}
def N_(l:List Int)(most:Int)(x:Nat):St:={t:=[(0,.c (ints l)),(1,.c (I most)),(5,.c (I l.length)),(9,.c (.bool false))],o:=[],n:=x}
theorem cD.al(h:cD.k M)(l:List Int)(most:Int)(hl:l.length≤4611686018427387904):run M 186 [.c (ints l),.c (I most)] []=some (.c (.bool (lZ l most)),[]):=by
 refine aA (b:=cD.m) h.1 ⟨l.length+1, ?_⟩;obtain⟨g,hr⟩:=iN (f:=ct (run M) (l.length+1) cD.l0) l.length (tM l) (Kj l most) 4 (.bool false) 0 (N_ l most)
  (fun i hi x c=>by
   have e5:=cA (i:=i) (by omega);have hm:=bR.j_ h.2 l[i] 1 9999;rw[oE hi] at c;simp at c;simp only[c.1] at hm;by_cases c1:0<i
   ·have c2:¬l[i]≤l[i-1]:=by have:=c.2 c1;omega
    have e6:IntKind.i64.wrap ((i:Int)-1)=((i-1:Nat):Int):=by rw[wrap_i64 (by omega) (by omega)];omega
    simp (maxSteps:=9^9) (disch:=(first|omega|(simp;done)|(simp;omega))) [cD.l0,Kj,hi,hm,c1,c2,e5,e6]
   ·simp (maxSteps:=9^9) (disch:=(first|omega|(simp;done)|(simp;omega))) [cD.l0,Kj,hi,hm,c1,e5])
  (fun i hi x c=>by
   have hm:=bR.j_ h.2 l[i] 1 9999;rw[oE hi] at c;cases c1:j_ 1 l[i] 9999
   ·simp only[c1] at hm;simp (maxSteps:=9^9) (disch:=(first|omega|(simp;done)|(simp;omega))) [cD.l0,Kj,hi,hm]
   ·simp[c1] at c;obtain⟨c2,c3⟩:=c;simp only[c1] at hm;have e6:IntKind.i64.wrap ((i:Int)-1)=((i-1:Nat):Int):=by rw[wrap_i64 (by omega) (by omega)];omega
    simp (maxSteps:=9^9) (disch:=(first|omega|(simp;done)|(simp;omega))) [cD.l0,Kj,hi,hm,c2,c3,e6])
  (fun x=>by simp (maxSteps:=9^9) (disch:=(first|omega|(simp;done)|(simp;omega))) [cD.l0,Kj,N_])
 cases q:eJ (tM l) l.length with
 |none=>
  simp[Kj,N_,q,lz] at hr;simp (maxSteps:=9^9) (disch:=(first|omega|(simp;done)|(simp;omega))) [ba,cD.m,cD.b,ab,hr,lZ,q]
 |some k=>
  simp[Kj,q,lz] at hr;simp (maxSteps:=9^9) (disch:=(first|omega|(simp;done)|(simp;omega))) [ba,cD.m,cD.b,ab,hr,lZ,q]
def Aq(l:List Int)(g:Int)(i:Nat):Bool:=match l[i]? with
 |some x=>decide (x=g)
 |none=>false
theorem sF{l:List Int}{g:Int}{i:Nat}(h:i<l.length):Aq l g i=decide (l[i]=g):=by simp[Aq,h]
theorem Bp(l:List Int)(g:Int):(eJ (Aq l g) l.length).isSome=decide (g∈l):=by
 rw[Bool.eq_iff_iff];simp only[decide_eq_true_eq];cases q:eJ (Aq l g) l.length with
 |none=>
  have:=mg q;refine⟨fun h=>by simp at h,fun h=> ?_⟩;obtain⟨i,hi,e⟩:=bW h;have h1:=this i hi;rw[sF hi] at h1;simp[e] at h1
 |some k=>
  obtain⟨h1,h2,_⟩:=mf q;rw[sF h1] at h2;simp at h2;refine⟨fun _=> ?_,fun _=>rfl⟩;rw[←h2];exact aq h1
def LW(l:List Int)(g:Int)(i:Nat)(x:Nat):St:={t:=[(0,.c (ints l)),(1,.c (I g)),(5,.c (I i))],o:=[],n:=x}
def Oe(l:List Int)(g:Int)(x:Nat):St:={t:=[(0,.c (ints l)),(1,.c (I g)),(5,.c (I l.length)),(9,.c (.bool false))],o:=[],n:=x}
theorem bj.al(h:bj.k M)(l:List Int)(g:Int)(hl:l.length≤4611686018427387904):run M 132 [.c (ints l),.c (I g)] []=some (.c (.bool (decide (g∈l))),[]):=by
 refine aA (b:=bj.m) h ⟨l.length+1, ?_⟩;obtain⟨g',hr⟩:=iN (f:=ct (run M) (l.length+1) bj.l0) l.length (Aq l g) (LW l g) 4 (.bool true) 0 (Oe l g)
  (fun i hi x c=>by
   have e5:=cA (i:=i) (by omega);rw[sF hi] at c;simp at c;simp (maxSteps:=9^9) (disch:=(first|omega|(simp;done)|(simp;omega))) [bj.l0,LW,hi,e5,c])
  (fun i hi x c=>by
   rw[sF hi] at c;simp at c;simp (maxSteps:=9^9) (disch:=(first|omega|(simp;done)|(simp;omega))) [bj.l0,LW,hi,c])
  (fun x=>by simp (maxSteps:=9^9) (disch:=(first|omega|(simp;done)|(simp;omega))) [bj.l0,LW,Oe])
 have hm:=Bp l g;rw[←hm];cases q:eJ (Aq l g) l.length with
 |none=>
  simp[LW,Oe,q,lz] at hr;simp (maxSteps:=9^9) (disch:=(first|omega|(simp;done)|(simp;omega))) [ba,bj.m,bj.b,ab,hr]
 |some k=>
  simp[LW,q,lz] at hr;simp (maxSteps:=9^9) (disch:=(first|omega|(simp;done)|(simp;omega))) [ba,bj.m,bj.b,ab,hr]
def LU(l:List Int)(g:Int)(i:Nat)(x:Nat):St:={t:=[(0,.c (ints l)),(1,.c (I g)),(7,.c (I l.length)),(8,.c (I i))],o:=[],n:=x}
theorem bU.al(h:bU.k M)(l:List Int)(g:Int)(hl:l.length≤4611686018427387904):run M 234 [.c (ints l),.c (I g)] []=some (.c (I (dO (eJ (Aq l g) l.length))),[]):=by
 refine aA (b:=bU.m) h ⟨l.length+1, ?_⟩;obtain⟨g',hr⟩:=m_ (f:=ct (run M) (l.length+1) bU.l0) l.length (Aq l g) (LU l g) j6 pL
  (fun i hi x c=>by
   have e5:=cA (i:=i) (by omega);rw[sF hi] at c;simp at c;have c':¬g=l[i]:=fun q=>c q.symm
   simp (maxSteps:=9^9) (disch:=(first|omega|(simp;done)|(simp;omega))) [bU.l0,LU,hi,e5,c'])
  (fun i hi x c=>by
   rw[sF hi] at c;simp at c;simp (maxSteps:=9^9) (disch:=(first|omega|(simp;done)|(simp;omega))) [bU.l0,LU,hi,c,j6];exact⟨⟨[],[],_⟩,rfl⟩)
  (fun x=>by simp (maxSteps:=9^9) (disch:=(first|omega|(simp;done)|(simp;omega))) [bU.l0,LU,j6])
 cases q:eJ (Aq l g) l.length with
 |none=>
  simp[LU,q,j6] at hr;simp (maxSteps:=9^9) (disch:=(first|omega|(simp;done)|(simp;omega))) [ba,bU.m,bU.b,ab,hr,dO]
 |some k=>
  simp[LU,q,j6] at hr;simp (maxSteps:=9^9) (disch:=(first|omega|(simp;done)|(simp;omega))) [ba,bU.m,bU.b,ab,hr,dO]
theorem GM(q:Option Nat):decide (0≤dO q)=q.isSome:=by cases q<;>simp[dO]
theorem aI.al(h:aI.k M)(l:List Int)(g:Int)(hl:l.length≤4611686018427387904):run M 156 [.c (ints l),.c (I g)] []=some (.c (.bool (decide (g∈l))),[]):=by
 have h1:=bU.al h.2 l g hl;refine aA (b:=aI.m) h.1 ⟨0, ?_⟩;rw[←Bp l g,←GM];simp (maxSteps:=9^9) (disch:=(first|omega|(simp;done)|(simp;omega))) [ba,aI.m,aI.b,ab,h1]
def oe(b:bA)(i:Nat):Bool:=match b.ae[i]? with
 |some m=> !i_ m||decide (b.next≤m.uid)||(decide (0<i)&&match b.ae[i-1]? with|some p=>decide (m.uid≤p.uid)|none=>false)|| !decide (dO (gg b.ae m.gid)=(i:Int))||decide (m.gid∈b.gone)
 |none=>false
theorem nR{b:bA}{i:Nat}(h:i<b.ae.length):oe b i=(!i_ b.ae[i]||decide (b.next≤b.ae[i].uid)||(decide (0<i)&&decide (b.ae[i].uid≤b.ae[i-1].uid))||
  !decide (dO (gg b.ae b.ae[i].gid)=(i:Int))||decide (b.ae[i].gid∈b.gone)):=by
 simp[oe,h,(show i-1<b.ae.length by omega)]
def fE(b:bA):Bool:=j_ 1 b.gid 9999&&nF b.name&&kM b.time b.df&&j_ 1 b.next 10000&&decide (b.ae.length≤10)&&lZ b.gone 40&&(eJ (oe b) b.ae.length).isNone
def B5(b:bA)(i:Nat)(x:Nat×Nat):St:={t:=[(1,.c (.ptr 1 x.1 0 0)),(40,.c (ae b.ae)),(41,.c (I b.ae.length)),(42,.c (I i))],o:=[(1,⟨x.1,7,true,true,[af b]⟩)],n:=x.2}
def Lq(b:bA)(x:Nat×Nat):St:={t:=[(1,.c (.ptr 1 x.1 0 0)),(40,.c (ae b.ae)),(41,.c (I b.ae.length)),(42,.c (I b.ae.length)),(43,.c (.bool false))],o:=[(1,⟨x.1,7,true,true,[af b]⟩)],n:=x.2}
theorem bJ.lY(hat:cK.k M)(hin:aI.k M)(hmo:e_.k M)(b:bA)(hml:b.ae.length≤1048576)(hgl:b.gone.length≤4611686018427387904)(hw:∀m∈b.ae,m.flags.length≤1048576)
  (i:Nat) (hi:i<b.ae.length) (x:Nat×Nat) (c:oe b i=false):∃y,ct (run M) (b.ae.length+1) bJ.l0 (B5 b i x)=some (.normal,B5 b (i+1) y):=by
   obtain⟨v,x⟩:=x;simp only[aE];have hm:=e_.al hmo b.ae[i] (hw _ (aq hi));have ha:=cK.al hat b b.ae[i].gid hml;have hg:=aI.al hin b.gone b.ae[i].gid hgl;simp only[ah,af] at hm ha hg;rw[nR hi] at c;simp at c;obtain⟨⟨⟨⟨c1,c2⟩,c3⟩,c4⟩,c5⟩:=c;have e5:=cA (i:=i) (by omega);rw[c1] at hm;rw[c4] at ha;rw[decide_eq_false c5] at hg;have c2':¬b.next≤b.ae[i].uid:=by omega
   by_cases c6:0<i
   ·have e6:IntKind.i64.wrap ((i:Int)-1)=((i-1:Nat):Int):=by rw[wrap_i64 (by omega) (by omega)];omega
    have c3':¬b.ae[i].uid≤b.ae[i-1].uid:=by have:=c3 c6;omega
    simp (maxSteps:=9^9) [bJ.l0,setAt,B5,ah,hi,hm,ha,hg,c2',c6,c3',e5,e6,(show i-1<b.ae.length by omega)]
   ·simp (maxSteps:=9^9) [bJ.l0,setAt,B5,ah,hi,hm,ha,hg,c2',c6,e5]
theorem bJ.bad(hat:cK.k M)(hin:aI.k M)(hmo:e_.k M)(b:bA)(hml:b.ae.length≤1048576)(hgl:b.gone.length≤4611686018427387904)(hw:∀m∈b.ae,m.flags.length≤1048576)
  (i:Nat) (hi:i<b.ae.length) (x:Nat×Nat) (c:oe b i=true):∃k,ct (run M) (b.ae.length+1) bJ.l0 (B5 b i x)=some (.ret,{t:=[(2,.c (.bool false))],o:=[],n:=k}):=by
   obtain⟨v,x⟩:=x;have hm:=e_.al hmo b.ae[i] (hw _ (aq hi));have ha:=cK.al hat b b.ae[i].gid hml;have hg:=aI.al hin b.gone b.ae[i].gid hgl;simp only[ah,af] at hm ha hg;rw[nR hi] at c;cases c1:i_ b.ae[i]
   ·rw[c1] at hm;simp (maxSteps:=9^9) [bJ.l0,setAt,B5,ah,hi,hm]
   rw[c1] at hm;by_cases c2:b.next≤b.ae[i].uid
   ·simp (maxSteps:=9^9) [bJ.l0,setAt,B5,ah,hi,hm,c2]
   have c2':¬b.next≤b.ae[i].uid:=c2;by_cases c6:0<i
   ·have e6:IntKind.i64.wrap ((i:Int)-1)=((i-1:Nat):Int):=by rw[wrap_i64 (by omega) (by omega)];omega
    by_cases c3:b.ae[i].uid≤b.ae[i-1].uid
    ·simp (maxSteps:=9^9) [bJ.l0,setAt,B5,ah,hi,hm,c2,c6,c3,e6,(show i-1<b.ae.length by omega)]
    by_cases c4:dO (gg b.ae b.ae[i].gid)=(i:Int);rotate_left
    ·simp (maxSteps:=9^9) [bJ.l0,setAt,B5,ah,hi,hm,c2,c6,c3,e6,(show i-1<b.ae.length by omega),ha,c4]
    rw[c4] at ha;by_cases c5:b.ae[i].gid∈b.gone;rotate_left
    ·simp[c1,c2,c3,c4,c5] at c
    rw[decide_eq_true c5] at hg;simp (maxSteps:=9^9) [bJ.l0,setAt,B5,ah,hi,hm,c2,c6,c3,e6,(show i-1<b.ae.length by omega),ha,hg]
   ·have c3:=c6;by_cases c4:dO (gg b.ae b.ae[i].gid)=(i:Int);rotate_left
    ·simp (maxSteps:=9^9) [bJ.l0,setAt,B5,ah,hi,hm,c2,c6,ha,c4]
    rw[c4] at ha;by_cases c5:b.ae[i].gid∈b.gone;rotate_left
    ·simp[c1,c2,c3,c4,c5] at c
    rw[decide_eq_true c5] at hg;simp (maxSteps:=9^9) [bJ.l0,setAt,B5,ah,hi,hm,c2,c6,ha,hg]
theorem bJ.al(h:bJ.k M)(b:bA)(hml:b.ae.length≤1048576)(hgl:b.gone.length≤4611686018427387904)(hnl:b.name.length≤4611686018427387904)(hw:∀m∈b.ae,m.flags.length≤1048576):
  run M 74 [.a (af b)] []=some (.c (.bool (fE b)),[]):=by
 obtain⟨h0,hat,hno,hwi,hig,hin,hso,hgo,hmo⟩:=h;have h1:=gD.al hig b.gid;have h2:=ev.al hno b.name hnl;have h3:=gI.al hso b.time b.df;have h4:=bV.j_ hwi b.next 1 10000;have h5:=dw.al hgo b.gone 40 hgl;refine aA (b:=bJ.m) h0 ⟨b.ae.length+1, ?_⟩;obtain⟨g,hr⟩:=iN (f:=ct (run M) (b.ae.length+1) bJ.l0) b.ae.length (oe b) (B5 b) 2 (.bool false) 0 (Lq b)
  (fun i hi x c=>bJ.lY hat hin hmo b hml hgl hw i hi x c)
  (fun i hi x c=>bJ.bad hat hin hmo b hml hgl hw i hi x c)
  (fun x=>by
   obtain⟨v,x⟩:=x;simp only[aE];simp (maxSteps:=9^9) [bJ.l0,B5,Lq])
 cases c1:j_ 1 b.gid 9999
 ·simp (maxSteps:=9^9) [ba,bJ.m,bJ.b,ab,h1,c1,fE]
 cases c2:nF b.name
 ·simp (maxSteps:=9^9) [ba,bJ.m,bJ.b,ab,h1,h2,c1,c2,fE]
 cases c3:kM b.time b.df
 ·simp (maxSteps:=9^9) [ba,bJ.m,bJ.b,ab,h1,h2,h3,c1,c2,c3,fE]
 cases c4:j_ 1 b.next 10000
 ·simp (maxSteps:=9^9) [ba,bJ.m,bJ.b,ab,h1,h2,h3,h4,c1,c2,c3,c4,fE]
 by_cases c5:10<b.ae.length
 ·have c5':¬b.ae.length≤10:=by omega
  have ci:(10:Int)<b.ae.length:=by omega
  simp (maxSteps:=9^9) [ba,bJ.m,bJ.b,ab,h1,h2,h3,h4,c1,c2,c3,c4,c5',ci,fE]
 have c5':b.ae.length≤10:=by omega
 have ci:¬(10:Int)<b.ae.length:=by omega
 cases c6:lZ b.gone 40
 ·simp (maxSteps:=9^9) [ba,bJ.m,bJ.b,ab,h1,h2,h3,h4,h5,c1,c2,c3,c4,ci,c6,fE]
 cases q:eJ (oe b) b.ae.length with
 |none=>
  simp[B5,Lq,q,lz] at hr;simp (maxSteps:=9^9) [ba,bJ.m,bJ.b,ab,h1,h2,h3,h4,h5,c1,c2,c3,c4,c5',ci,c6,hr,fE,q]
 |some k=>
  simp[B5,q,lz] at hr;simp (maxSteps:=9^9) [ba,bJ.m,bJ.b,ab,h1,h2,h3,h4,h5,c1,c2,c3,c4,c5',ci,c6,hr,fE,q]
def sR(b:bA)(i:Nat)(x:Nat×Nat):St:={t:=[(1,.c (.ptr 1 x.1 0 0)),(3,.c (I i))],o:=[(1,⟨x.1,7,true,true,[af b]⟩)],n:=x.2}
def F_(b:bA)(x:Nat×Nat):St:={t:=[(1,.c (.ptr 1 x.1 0 0)),(3,.c (I b.ae.length)),(43,.c (.bool false))],o:=[(1,⟨x.1,7,true,true,[af b]⟩)],n:=x.2}
theorem bE.lY(hat:bT.k M)(hin:bj.k M)(hmo:d_.k M)(b:bA)(hml:b.ae.length≤1048576)(hgl:b.gone.length≤4611686018427387904)(hw:∀m∈b.ae,m.flags.length≤1048576)
  (i:Nat) (hi:i<b.ae.length) (x:Nat×Nat) (c:oe b i=false):∃y,ct (run M) (b.ae.length+1) bE.l0 (sR b i x)=some (.normal,sR b (i+1) y):=by
   obtain⟨v,x⟩:=x;simp only[aE];have hm:=d_.al hmo b.ae[i] (hw _ (aq hi));have ha:=bT.al hat b b.ae[i].gid hml;have hg:=bj.al hin b.gone b.ae[i].gid hgl;simp only[ah,af] at hm ha hg;rw[nR hi] at c;simp at c;obtain⟨⟨⟨⟨c1,c2⟩,c3⟩,c4⟩,c5⟩:=c;have e5:=cA (i:=i) (by omega);rw[c1] at hm;rw[c4] at ha;rw[decide_eq_false c5] at hg;have c2':¬b.next≤b.ae[i].uid:=by omega
   by_cases c6:0<i
   ·have e6:IntKind.i64.wrap ((i:Int)-1)=((i-1:Nat):Int):=by rw[wrap_i64 (by omega) (by omega)];omega
    have c3':¬b.ae[i].uid≤b.ae[i-1].uid:=by have:=c3 c6;omega
    simp (maxSteps:=9^9) [bE.l0,setAt,sR,ah,hi,hm,ha,hg,c2',c6,c3',e5,e6,(show i-1<b.ae.length by omega)]
   ·simp (maxSteps:=9^9) [bE.l0,setAt,sR,ah,hi,hm,ha,hg,c2',c6,e5]
theorem bE.bad(hat:bT.k M)(hin:bj.k M)(hmo:d_.k M)(b:bA)(hml:b.ae.length≤1048576)(hgl:b.gone.length≤4611686018427387904)(hw:∀m∈b.ae,m.flags.length≤1048576)
  (i:Nat) (hi:i<b.ae.length) (x:Nat×Nat) (c:oe b i=true):∃k,ct (run M) (b.ae.length+1) bE.l0 (sR b i x)=some (.ret,{t:=[(2,.c (.bool false))],o:=[],n:=k}):=by
   obtain⟨v,x⟩:=x;have hm:=d_.al hmo b.ae[i] (hw _ (aq hi));have ha:=bT.al hat b b.ae[i].gid hml;have hg:=bj.al hin b.gone b.ae[i].gid hgl;simp only[ah,af] at hm ha hg;rw[nR hi] at c;cases c1:i_ b.ae[i]
   ·rw[c1] at hm;simp (maxSteps:=9^9) [bE.l0,setAt,sR,ah,hi,hm]
   rw[c1] at hm;by_cases c2:b.next≤b.ae[i].uid
   ·simp (maxSteps:=9^9) [bE.l0,setAt,sR,ah,hi,hm,c2]
   have c2':¬b.next≤b.ae[i].uid:=c2;by_cases c6:0<i
   ·have e6:IntKind.i64.wrap ((i:Int)-1)=((i-1:Nat):Int):=by rw[wrap_i64 (by omega) (by omega)];omega
    by_cases c3:b.ae[i].uid≤b.ae[i-1].uid
    ·simp (maxSteps:=9^9) [bE.l0,setAt,sR,ah,hi,hm,c2,c6,c3,e6,(show i-1<b.ae.length by omega)]
    by_cases c5:b.ae[i].gid∈b.gone
    ·rw[decide_eq_true c5] at hg;simp (maxSteps:=9^9) [bE.l0,setAt,sR,ah,hi,hm,c2,c6,c3,e6,(show i-1<b.ae.length by omega),hg]
    rw[decide_eq_false c5] at hg;by_cases c4:dO (gg b.ae b.ae[i].gid)=(i:Int)
    ·simp[c1,c2,c3,c4,c5] at c
    simp (maxSteps:=9^9) [bE.l0,setAt,sR,ah,hi,hm,c2,c6,c3,e6,(show i-1<b.ae.length by omega),ha,hg,c4]
   ·have c3:=c6;by_cases c5:b.ae[i].gid∈b.gone
    ·rw[decide_eq_true c5] at hg;simp (maxSteps:=9^9) [bE.l0,setAt,sR,ah,hi,hm,c2,c6,hg]
    rw[decide_eq_false c5] at hg;by_cases c4:dO (gg b.ae b.ae[i].gid)=(i:Int)
    ·simp[c1,c2,c3,c4,c5] at c
    simp (maxSteps:=9^9) [bE.l0,setAt,sR,ah,hi,hm,c2,c6,ha,hg,c4]
theorem bE.al(h:bE.k M)(b:bA)(hml:b.ae.length≤1048576)(hgl:b.gone.length≤4611686018427387904)(hnl:b.name.length≤4611686018427387904)(hw:∀m∈b.ae,m.flags.length≤1048576):
  run M 88 [.a (af b)] []=some (.c (.bool (fE b)),[]):=by
 obtain⟨h0,hno,hat,hwi,hin,hso,hgo,hmo⟩:=h;have h1:=bR.j_ hwi b.gid 1 9999;have h2:=dZ.al hno b.name hnl;have h3:=gG.al hso b.time b.df;have h4:=bR.j_ hwi b.next 1 10000;have h5:=cD.al hgo b.gone 40 hgl;refine aA (b:=bE.m) h0 ⟨b.ae.length+1, ?_⟩;obtain⟨g,hr⟩:=iN (f:=ct (run M) (b.ae.length+1) bE.l0) b.ae.length (oe b) (sR b) 2 (.bool false) 0 (F_ b)
  (fun i hi x c=>bE.lY hat hin hmo b hml hgl hw i hi x c)
  (fun i hi x c=>bE.bad hat hin hmo b hml hgl hw i hi x c)
  (fun x=>by
   obtain⟨v,x⟩:=x;simp only[aE];simp (maxSteps:=9^9) [bE.l0,sR,F_])
 cases c1:j_ 1 b.gid 9999
 ·simp (maxSteps:=9^9) [ba,bE.m,bE.b,ab,h1,c1,fE]
 cases c2:nF b.name
 ·simp (maxSteps:=9^9) [ba,bE.m,bE.b,ab,h1,h2,c1,c2,fE]
 cases c3:kM b.time b.df
 ·simp (maxSteps:=9^9) [ba,bE.m,bE.b,ab,h1,h2,h3,c1,c2,c3,fE]
 cases c4:j_ 1 b.next 10000
 ·simp (maxSteps:=9^9) [ba,bE.m,bE.b,ab,h1,h2,h3,h4,c1,c2,c3,c4,fE]
 by_cases c5:10<b.ae.length
 ·have c5':¬b.ae.length≤10:=by omega
  have ci:(10:Int)<b.ae.length:=by omega
  simp (maxSteps:=9^9) [ba,bE.m,bE.b,ab,h1,h2,h3,h4,c1,c2,c3,c4,c5',ci,fE]
 have c5':b.ae.length≤10:=by omega
 have ci:¬(10:Int)<b.ae.length:=by omega
 cases c6:lZ b.gone 40
 ·simp (maxSteps:=9^9) [ba,bE.m,bE.b,ab,h1,h2,h3,h4,h5,c1,c2,c3,c4,ci,c6,fE]
 cases q:eJ (oe b) b.ae.length with
 |none=>
  simp[sR,F_,q,lz] at hr;simp (maxSteps:=9^9) [ba,bE.m,bE.b,ab,h1,h2,h3,h4,h5,c1,c2,c3,c4,c5',ci,c6,hr,fE,q]
 |some k=>
  simp[sR,q,lz] at hr;simp (maxSteps:=9^9) [ba,bE.m,bE.b,ab,h1,h2,h3,h4,h5,c1,c2,c3,c4,c5',ci,c6,hr,fE,q]
structure aT where
 df:Int
 time:Int
 boxes:List bA
 gone:List Int
abbrev boxes(l:List bA):T:= .sl false 7 (l.map af)
abbrev ai(s:aT):List T:=[I s.df,I s.time,boxes s.boxes,ints s.gone]
abbrev aW(s:aT):List T:=[I s.df,I s.time,.sl true 7 (s.boxes.map af),.sl true 1 (az s.gone)]
def C7{α:Type}(p:α→Bool)(l:List α)(i:Nat):Bool:=match l[i]? with
 |some x=>p x
 |none=>false
theorem oH{α:Type}{p:α→Bool}{l:List α}{i:Nat}(h:i<l.length):C7 p l i=p l[i]:=by simp[C7,h]
theorem r7{α:Type}(p:α→Bool)(l:List α):∀d i,i+d=l.length→n_ (C7 p l) d i=((l.drop i).findIdx? p).map (·+i)
 |0,i,h=>by rw[n_,eO (by omega)];rfl
 |d+1,i,h=>by
  have hi:i<l.length:=by omega
  rw[n_,oH hi,bD hi,List.findIdx?_cons];split
  ·simp
  ·rw[r7 p l d (i+1) (by omega),Option.map_map];congr 1;funext x;simp only[Function.comp];omega
theorem pH{α:Type}(p:α→Bool)(l:List α):eJ (C7 p l) l.length=l.findIdx? p:=by
 rw[eJ,r7 p l _ _ (by omega)];simp
theorem x8{α:Type}(p:α→Bool)(l:List α):(eJ (C7 p l) l.length).isSome=l.any p:=by
 rw[pH,List.findIdx?_isSome]
def named(l:List bA)(s:List UInt8):Option Nat:=l.findIdx? fun b=>decide (b.name=s)
def Ml(st:aT)(s:List UInt8)(i:Nat)(x:Nat×Nat):St:={t:=[(1,.c (S s)),(2,.c (.ptr 2 x.1 0 0)),(5,.c (I i))],o:=[(2,⟨x.1,4,true,true,[ai st]⟩)],n:=x.2}
def CS{β:Type}(r:Nat)(e:Nat)(E:β→St)(q:Option Nat)(m:β×Nat):Out×St:=match q with
 |none=>(.exit e,E m.1)
 |some k=>(.ret,{t:=[(r,.c (I k))],o:=[],n:=m.2})
theorem xV{β γ:Type}(n:Nat)(p:Nat→Bool){f:St→Option (Out×St)}(S:Nat→β→St)(r:Nat)(e:Nat)(E:γ→St)(z:γ)
  (h1:∀i,i<n→∀x,p i=false→∃y,f (S i x)=some (.normal,S (i+1) y)) (h2:∀i,i<n→∀x,p i=true→∃k,f (S i x)=some (.ret,{t:=[(r,.c (I i))],o:=[],n:=k}))
  (h3:∀x,∃y,f (S n x)=some (.exit e,E y)):∃g:β→γ×Nat,∀x,eZ f (n+1) (S 0 x)=some (CS r e E (eJ p n) (g x)):=
 m_ n p S (CS r e E) (fun q m=>by cases q<;>simp[CS]) h1 (fun i hi x c=>by
  obtain⟨k,hk⟩:=h2 i hi x c;exact⟨(z,k),hk⟩) (fun x=>by
  obtain⟨y,hy⟩:=h3 x;exact⟨(y,0),hy⟩)
def OO(st:aT)(s:List UInt8)(x:Nat×Nat):St:={t:=[(1,.c (S s)),(2,.c (.ptr 2 x.1 0 0)),(5,.c (I st.boxes.length)),(10,.c (.bool false))],o:=[(2,⟨x.1,4,true,true,[ai st]⟩)],n:=x.2}
theorem cH.al(h:cH.k M)(st:aT)(s:List UInt8)(hb:st.boxes.length≤1048576):run M 226 [.a (ai st),.c (S s)] []=some (.c (I (dO (named st.boxes s))),[]):=by
 refine aA (b:=cH.m) h ⟨st.boxes.length+1, ?_⟩;obtain⟨g,hr⟩:=xV (f:=ct (run M) (st.boxes.length+1) cH.l0) st.boxes.length (C7 (fun b=>decide (b.name=s)) st.boxes) (Ml st s) 4 0 (OO st s) (0,0)
  (fun i hi x c=>by
   obtain⟨v,x⟩:=x;rw[oH hi,decide_eq_false_iff_not] at c;have e5:=cA (i:=i) (by omega);simp only[aE];simp (maxSteps:=9^9) [cH.l0,Ml,hi,c,af,e5])
  (fun i hi x c=>by
   obtain⟨v,x⟩:=x;rw[oH hi,decide_eq_true_eq] at c;simp (maxSteps:=9^9) [cH.l0,Ml,hi,c,af])
  (fun x=>by
   obtain⟨v,x⟩:=x;simp only[aE];simp (maxSteps:=9^9) [cH.l0,Ml,OO])
 rw[pH] at hr;unfold named;cases hm:st.boxes.findIdx? fun b=>decide (b.name=s) with
 |none=>
  simp[Ml,hm,CS,OO] at hr;simp (maxSteps:=9^9) [ba,cH.m,cH.b,ab,hr,dO]
 |some k=>
  simp[Ml,hm,CS] at hr;simp (maxSteps:=9^9) [ba,cH.m,cH.b,ab,hr,dO]
theorem fH.al(h:fH.k M)(b:bA)(s:List UInt8):run M 271 [.a (af b),.c (.vp [S s] 0)] []=some (.c (.bool (decide (b.name=s))),[]):=by
 refine aA (b:=fH.m) h ⟨0, ?_⟩;simp (maxSteps:=9^9) [ba,fH.m,fH.b,ab]
def EZ(l:List bA)(s:List UInt8)(i:Nat)(x:Nat):St:={t:=[(0,.c (boxes l)),(1,.c (.fn 271 [.vp [S s] 0])),(7,.c (I l.length)),(8,.c (I i))],o:=[],n:=x}
def Lj(l:List bA)(s:List UInt8)(x:Nat):St:={t:=[(0,.c (boxes l)),(1,.c (.fn 271 [.vp [S s] 0])),(7,.c (I l.length)),(8,.c (I l.length)),(9,.c (.bool false))],o:=[],n:=x}
theorem dW.index(h:aB.k M)(h2:fH.k M)(l:List bA)(s:List UInt8)(hl:l.length≤1048576):
  run M 200 [.c (boxes l),.c (.fn 271 [.vp [S s] 0])] []=some (.c (I (dO (named l s))),[]):=by
 refine aA (b:=aB.m) h ⟨l.length+1, ?_⟩;obtain⟨g,hr⟩:=xV (f:=ct (run M) (l.length+1) aB.l0) l.length (C7 (fun b=>decide (b.name=s)) l) (EZ l s) 4 0 (Lj l s) 0
  (fun i hi x c=>by
   have hm:=fH.al h2 l[i] s;rw[oH hi] at c;rw[c] at hm;simp only[af] at hm;have e5:=cA (i:=i) (by omega);simp (maxSteps:=9^9) [aB.l0,EZ,hi,hm,af,e5])
  (fun i hi x c=>by
   have hm:=fH.al h2 l[i] s;rw[oH hi] at c;rw[c] at hm;simp only[af] at hm;simp (maxSteps:=9^9) [aB.l0,EZ,hi,hm,af])
  (fun x=>by simp (maxSteps:=9^9) [aB.l0,EZ,Lj])
 rw[pH] at hr;unfold named;cases hm:l.findIdx? fun b=>decide (b.name=s) with
 |none=>
  simp[EZ,hm,CS,Lj] at hr;simp (maxSteps:=9^9) [ba,aB.m,aB.b,ab,hr,dO]
 |some k=>
  simp[EZ,hm,CS] at hr;simp (maxSteps:=9^9) [ba,aB.m,aB.b,ab,hr,dO]
theorem dW.al(h:dW.k M)(st:aT)(s:List UInt8)(hb:st.boxes.length≤1048576):run M 228 [.a (ai st),.c (S s)] []=some (.c (I (dO (named st.boxes s))),[]):=by
 have h1:=dW.index h.2.1 h.2.2 st.boxes s hb;refine aA (b:=dW.m) h.1 ⟨0, ?_⟩;simp (maxSteps:=9^9) [ba,dW.m,dW.b,ab,h1]
def uh(time:Int)(m:bp):Bool:=m.flags.any fun r=>decide (time<r.time)
def late(b:bA)(time:Int):Bool:=decide (time<b.time)||b.ae.any (uh time)
def Mc(b:bA)(time:Int)(i:Nat)(x:Nat×Nat):St:={t:=[(1,.c (I time)),(2,.c (.ptr 2 x.1 0 0)),(10,.c (ae b.ae)),(11,.c (I b.ae.length)),(12,.c (I i))],o:=[(2,⟨x.1,7,true,true,[af b]⟩)],n:=x.2}
def Ou(b:bA)(time:Int)(x:Nat×Nat):St:={t:=[(1,.c (I time)),(2,.c (.ptr 2 x.1 0 0)),(10,.c (ae b.ae)),(11,.c (I b.ae.length)),(12,.c (I b.ae.length)),(13,.c (.bool false))],o:=[(2,⟨x.1,7,true,true,[af b]⟩)],n:=x.2}
def CH(b:bA)(time:Int)(i:Nat)(l:List nE)(k:Nat)(x:Nat×Nat):St:={t:=[(1,.c (I time)),(2,.c (.ptr 2 x.1 0 0)),(10,.c (ae b.ae)),(11,.c (I b.ae.length)),(12,.c (I i)),(17,.c (jM l)),(18,.c (I l.length)),(19,.c (I k))],o:=[(2,⟨x.1,7,true,true,[af b]⟩)],n:=x.2}
def IY(b:bA)(time:Int)(i:Nat)(l:List nE)(x:Nat×Nat):St:={t:=[(1,.c (I time)),(2,.c (.ptr 2 x.1 0 0)),(10,.c (ae b.ae)),(11,.c (I b.ae.length)),(12,.c (I i)),(17,.c (jM l)),(18,.c (I l.length)),(19,.c (I l.length)),(20,.c (.bool false))],o:=[(2,⟨x.1,7,true,true,[af b]⟩)],n:=x.2}
theorem any_none{α:Type}{p:α→Bool}{l:List α}(h:l.any p=false):eJ (C7 p l) l.length=none:=by
 have:=x8 p l;rw[h] at this;simpa using this
theorem any_some{α:Type}{p:α→Bool}{l:List α}(h:l.any p=true):∃k,eJ (C7 p l) l.length=some k:=by
 have:=x8 p l;rw[h] at this;exact Option.isSome_iff_exists.1 this
theorem cS.inner(b:bA)(time:Int)(i K:Nat)(l:List nE)(hl:l.length≤1048576):∃g:Nat×Nat→(Nat×Nat)×Nat,∀x,eZ (ct (run M) K cS.l1) (l.length+1) (CH b time i l 0 x)=some (lz 4 (.bool true) 2 (IY b time i l) (eJ (C7 (fun r=>decide (time<r.time)) l) l.length) (g x)):=
 iN l.length (C7 (fun r=>decide (time<r.time)) l) (CH b time i l) 4 (.bool true) 2 (IY b time i l)
  (fun i hi x c=>by
   obtain⟨v,x⟩:=x;rw[oH hi,decide_eq_false_iff_not] at c;have e5:=cA (i:=i) (by omega);simp only[aE];simp (maxSteps:=9^9) [cS.l1,setAt,CH,hi,c,aS,e5])
  (fun i hi x c=>by
   obtain⟨v,x⟩:=x;rw[oH hi,decide_eq_true_eq] at c;simp (maxSteps:=9^9) [cS.l1,setAt,CH,hi,c,aS])
  (fun x=>by
   obtain⟨v,x⟩:=x;simp only[aE];simp (maxSteps:=9^9) [cS.l1,CH,IY])
theorem cS.al(h:cS.k M)(b:bA)(time:Int)(hb:b.ae.length≤1048576)(hf:∀m∈b.ae,m.flags.length≤1048576):run M 229 [.a (af b),.c (I time)] []=some (.c (.bool (late b time)),[]):=by
 refine aA (b:=cS.m) h ⟨b.ae.length+1048577, ?_⟩;obtain⟨K,hK⟩:∃K,b.ae.length+1048577=K:=⟨_,rfl⟩
 rw[hK];obtain⟨g,hr⟩:=iN (f:=ct (run M) K cS.l0) b.ae.length (C7 (uh time) b.ae) (Mc b time) 4 (.bool true) 0 (Ou b time)
  (fun i hi x c=>by
   obtain⟨v,x⟩:=x;rw[oH hi,uh] at c;have e5:=cA (i:=i) (by omega);have hfl:=hf _ (aq hi);obtain⟨g,hr⟩:=cS.inner (M:=M) b time i K b.ae[i].flags hfl;rw[any_none c] at hr;have hr2:=fun x=>gT (hr x) (show b.ae[i].flags.length+1≤K by omega)
   simp[CH,IY,lz] at hr2;simp only[aE];simp (maxSteps:=9^9) [cS.l0,setAt,Mc,hi,ah,e5,hr2])
  (fun i hi x c=>by
   obtain⟨v,x⟩:=x;rw[oH hi,uh] at c;have hfl:=hf _ (aq hi);obtain⟨g,hr⟩:=cS.inner (M:=M) b time i K b.ae[i].flags hfl;obtain⟨k,hk⟩:=any_some c;rw[hk] at hr;have hr2:=fun x=>gT (hr x) (show b.ae[i].flags.length+1≤K by omega)
   simp[CH,lz] at hr2;simp (maxSteps:=9^9) [cS.l0,setAt,Mc,hi,ah,hr2])
  (fun x=>by
   obtain⟨v,x⟩:=x;simp only[aE];simp (maxSteps:=9^9) [cS.l0,Mc,Ou])
 have hr2:=fun x=>gT (hr x) (show b.ae.length+1≤K by omega)
 unfold late;cases c:b.ae.any (uh time)
 ·rw[any_none c] at hr2;simp[Mc,Ou,lz] at hr2;simp (maxSteps:=9^9) [ba,cS.m,cS.b,ab,hr2]
 ·obtain⟨k,hk⟩:=any_some c;rw[hk] at hr2;simp[Mc,lz] at hr2;simp (maxSteps:=9^9) [ba,cS.m,cS.b,ab,hr2]
def Ey(b:bA)(time:Int)(i:Nat)(x:Nat×Nat):St:={t:=[(1,.c (I time)),(2,.c (.ptr 2 x.1 0 0)),(5,.c (I i))],o:=[(2,⟨x.1,7,true,true,[af b]⟩)],n:=x.2}
def KJ(b:bA)(time:Int)(x:Nat×Nat):St:={t:=[(1,.c (I time)),(2,.c (.ptr 2 x.1 0 0)),(5,.c (I b.ae.length)),(16,.c (.bool false))],o:=[(2,⟨x.1,7,true,true,[af b]⟩)],n:=x.2}
def Cm(b:bA)(time:Int)(i:Nat)(k:Nat)(x:Nat×Nat):St:={t:=[(1,.c (I time)),(2,.c (.ptr 2 x.1 0 0)),(5,.c (I i)),(6,.c (I k))],o:=[(2,⟨x.1,7,true,true,[af b]⟩)],n:=x.2}
def Iu(b:bA)(time:Int)(i:Nat)(k:Nat)(x:Nat×Nat):St:={t:=[(1,.c (I time)),(2,.c (.ptr 2 x.1 0 0)),(5,.c (I i)),(6,.c (I k)),(27,.c (.bool false))],o:=[(2,⟨x.1,7,true,true,[af b]⟩)],n:=x.2}
theorem b5.inner(b:bA)(time:Int)(i K:Nat)(hi:i<b.ae.length)(hl:b.ae[i].flags.length≤1048576):∃g:Nat×Nat→(Nat×Nat)×Nat,∀x,eZ (ct (run M) K b5.l1) (b.ae[i].flags.length+1) (Cm b time i 0 x)=some (lz 4 (.bool false) 2 (Iu b time i b.ae[i].flags.length) (eJ (C7 (fun r=>decide (time<r.time)) b.ae[i].flags) b.ae[i].flags.length) (g x)):=
 iN b.ae[i].flags.length (C7 (fun r=>decide (time<r.time)) b.ae[i].flags) (Cm b time i) 4 (.bool false) 2 (Iu b time i b.ae[i].flags.length)
  (fun k hk x c=>by
   obtain⟨v,x⟩:=x;rw[oH hk,decide_eq_false_iff_not] at c;have e5:=cA (i:=k) (by omega);simp only[aE];simp (maxSteps:=9^9) [b5.l1,Cm,hi,hk,c,aS,ah,e5])
  (fun k hk x c=>by
   obtain⟨v,x⟩:=x;rw[oH hk,decide_eq_true_eq] at c;simp (maxSteps:=9^9) [b5.l1,Cm,hi,hk,c,aS,ah])
  (fun x=>by
   obtain⟨v,x⟩:=x;simp only[aE];simp (maxSteps:=9^9) [b5.l1,Cm,Iu,hi,ah])
theorem b5.al(h:b5.k M)(b:bA)(time:Int)(hb:b.ae.length≤1048576)(hf:∀m∈b.ae,m.flags.length≤1048576):run M 227 [.a (af b),.c (I time)] []=some (.c (.bool (!late b time)),[]):=by
 refine aA (b:=b5.m) h ⟨b.ae.length+1048577, ?_⟩;obtain⟨K,hK⟩:∃K,b.ae.length+1048577=K:=⟨_,rfl⟩
 rw[hK];obtain⟨g,hr⟩:=iN (f:=ct (run M) K b5.l0) b.ae.length (C7 (uh time) b.ae) (Ey b time) 4 (.bool false) 0 (KJ b time)
  (fun i hi x c=>by
   obtain⟨v,x⟩:=x;rw[oH hi,uh] at c;have e5:=cA (i:=i) (by omega);have hfl:=hf _ (aq hi);obtain⟨g,hr⟩:=b5.inner (M:=M) b time i K hi hfl;rw[any_none c] at hr;have hr2:=fun x=>gT (hr x) (show b.ae[i].flags.length+1≤K by omega)
   simp[Cm,Iu,lz] at hr2;simp only[aE];simp (maxSteps:=9^9) [b5.l0,Ey,hi,e5,hr2])
  (fun i hi x c=>by
   obtain⟨v,x⟩:=x;rw[oH hi,uh] at c;have hfl:=hf _ (aq hi);obtain⟨g,hr⟩:=b5.inner (M:=M) b time i K hi hfl;obtain⟨k,hk⟩:=any_some c;rw[hk] at hr;have hr2:=fun x=>gT (hr x) (show b.ae[i].flags.length+1≤K by omega)
   simp[Cm,lz] at hr2;simp (maxSteps:=9^9) [b5.l0,Ey,hi,hr2])
  (fun x=>by
   obtain⟨v,x⟩:=x;simp only[aE];simp (maxSteps:=9^9) [b5.l0,Ey,KJ])
 have hr2:=fun x=>gT (hr x) (show b.ae.length+1≤K by omega)
 unfold late;by_cases c0:time<b.time
 ·simp (maxSteps:=9^9) [ba,b5.m,b5.b,ab,c0]
 cases c:b.ae.any (uh time)
 ·rw[any_none c] at hr2;simp[Ey,KJ,lz] at hr2;simp (maxSteps:=9^9) [ba,b5.m,b5.b,ab,hr2,c0]
 ·obtain⟨k,hk⟩:=any_some c;rw[hk] at hr2;simp[Ey,lz] at hr2;simp (maxSteps:=9^9) [ba,b5.m,b5.b,ab,hr2,c0]
def b_(b:bA):List Int:=b.ae.map (·.gid)
def seenAt(s:aT)(i:Nat):List Int:=(s.boxes.take i).flatMap b_
theorem pQ{s:aT}{i:Nat}(h:i<s.boxes.length):seenAt s (i+1)=seenAt s i++b_ s.boxes[i]:=by
 rw[seenAt,seenAt,List.take_succ_eq_append_getElem h,List.flatMap_append];simp
def r9(seen l:List Int)(k:Nat):Bool:=match l[k]? with
 |some g=>decide (g∈seen++l.take k)
 |none=>false
theorem qn{seen l:List Int}{k:Nat}(h:k<l.length):r9 seen l k=decide (l[k]∈seen++l.take k):=by simp[r9,h]
def vh(seen l:List Int):Bool:=(eJ (r9 seen l) l.length).isSome
def vu(s:aT)(i:Nat):Bool:=match s.boxes[i]? with
 |some b=> !fE b||(decide (0<i)&&match s.boxes[i-1]? with|some p=>decide (b.gid≤p.gid)|none=>false)|| !decide (dO (named s.boxes b.name)=(i:Int))||decide (b.gid∈s.gone)||late b s.time
 |none=>false
theorem oG{s:aT}{i:Nat}(h:i<s.boxes.length):vu s i=(!fE s.boxes[i]||(decide (0<i)&&decide (s.boxes[i].gid≤s.boxes[i-1].gid))|| !decide (dO (named s.boxes s.boxes[i].name)=(i:Int))||
  decide (s.boxes[i].gid∈s.gone)||late s.boxes[i] s.time):=by simp[vu,h,(show i-1<s.boxes.length by omega)]
def qw(s:aT)(i:Nat):Bool:=vu s i||match s.boxes[i]? with
 |some b=>vh (seenAt s i) (b_ b)
 |none=>false
theorem og{s:aT}{i:Nat}(h:i<s.boxes.length):qw s i=(vu s i||vh (seenAt s i) (b_ s.boxes[i])):=by simp[qw,h]
def a8(s:aT):Bool:=j_ 1 s.df 2&&j_ 0 s.time 100000&&decide (s.boxes.length≤5)&&lZ s.gone 20&&(eJ (qw s) s.boxes.length).isNone
structure iL (b:bA):Prop where
 m:b.ae.length≤1048576
 g:b.gone.length≤1048576
 n:b.name.length≤1048576
 f:∀m∈b.ae,m.flags.length≤1048576
structure gJ (s:aT):Prop where
 b:s.boxes.length≤1048576
 g:s.gone.length≤1048576
 i:∀b∈s.boxes,iL b
 s:(s.boxes.flatMap b_).length≤1048576
theorem sy{s:aT}(h:gJ s)(i:Nat):(seenAt s i).length≤1048576:=by
 refine Nat.le_trans ?_ h.s
 conv=>rhs;rw[←cr i s.boxes]
 rw[List.flatMap_append,ax];exact Nat.le_add_right _ _
def Dw(s:aT)(seen:List Int)(x:Nat×Nat×Nat):List (Nat×Ob):=[(1,⟨x.1,4,true,true,[ai s]⟩),(30,⟨x.2.1,1,true,false,az seen⟩)]
def zU(s:aT)(i:Nat)(x:Nat×Nat×Nat):St:={t:=[(1,.c (.ptr 1 x.1 0 0)),(3,.c (.row 30 x.2.1 0 (seenAt s i).length)),(32,.c (boxes s.boxes)),(33,.c (I s.boxes.length)),(34,.c (I i))],o:=Dw s (seenAt s i) x,n:=x.2.2}
def KN(s:aT)(x:Nat×Nat×Nat):St:={t:=[(1,.c (.ptr 1 x.1 0 0)),(3,.c (.row 30 x.2.1 0 (seenAt s s.boxes.length).length)),(32,.c (boxes s.boxes)),(33,.c (I s.boxes.length)),(34,.c (I s.boxes.length)),(35,.c (.bool false))],o:=Dw s (seenAt s s.boxes.length) x,n:=x.2.2}
def Cv(s:aT)(b:bA)(seen:List Int)(i k:Nat)(x:Nat×Nat×Nat):St:={t:=[(1,.c (.ptr 1 x.1 0 0)),(3,.c (.row 30 x.2.1 0 (seen.length+k))),(32,.c (boxes s.boxes)),(33,.c (I s.boxes.length)),(34,.c (I i)),(80,.c (ae b.ae)),(81,.c (I b.ae.length)),(82,.c (I k))],o:=Dw s (seen++(b_ b).take k) x,n:=x.2.2}
def Ix(s:aT)(b:bA)(seen:List Int)(i:Nat)(x:Nat×Nat×Nat):St:={t:=[(1,.c (.ptr 1 x.1 0 0)),(3,.c (.row 30 x.2.1 0 (seen.length+b.ae.length))),(32,.c (boxes s.boxes)),(33,.c (I s.boxes.length)),(34,.c (I i)),(80,.c (ae b.ae)),(81,.c (I b.ae.length)),(82,.c (I b.ae.length)),(83,.c (.bool false))],o:=Dw s (seen++b_ b) x,n:=x.2.2}
theorem jQ(b:bA):(b_ b).length=b.ae.length:=by simp[b_]
theorem pq(b:bA)(k:Nat)(h:k<(b_ b).length):(b_ b)[k]=(b.ae[k]'(by simpa [b_] using h)).gid:=by simp[b_]
theorem aJ.inner(hin:aI.k M)(s:aT)(b:bA)(seen:List Int)(i K:Nat)(hl:b.ae.length≤1048576)(hs:seen.length≤1048576):
  ∃g:Nat×Nat×Nat→(Nat×Nat×Nat)×Nat,∀x,eZ (ct (run M) K aJ.l1) (b.ae.length+1) (Cv s b seen i 0 x)=some (lz 2 (.bool false) 2 (Ix s b seen i) (eJ (r9 seen (b_ b)) b.ae.length) (g x)):=
 iN b.ae.length (r9 seen (b_ b)) (Cv s b seen i) 2 (.bool false) 2 (Ix s b seen i)
  (fun k hk x c=>by
   obtain⟨v,w,x⟩:=x;have hk':k<(b_ b).length:=by rw[jQ];exact hk
   rw[qn hk'] at c;have hlen:(seen++(b_ b).take k).length=seen.length+k:=by rw[ax,eD,Nat.min_eq_left (by omega)]
   have h1:=aI.al hin (seen++(b_ b).take k) (b_ b)[k] (by rw[hlen];omega);rw[c] at h1;rw[pq] at h1;simp only[ints] at h1;have e5:=cA (i:=k) (by omega);have e6:seen.length+(k+1)≤4294967296:=by omega
   have e7:seen++(b_ b).take (k+1)=(seen++(b_ b).take k)++[b.ae[k].gid]:=by rw[List.take_succ_eq_append_getElem hk',pq,bN]
   have e8:az ((seen++(b_ b).take k)++[b.ae[k].gid])=az (seen++(b_ b).take k)++[[I b.ae[k].gid]]:=by simp[az]
   have e9:(az (seen++(b_ b).take k)).length=seen.length+k:=by simp only[az,de];exact hlen
   simp only[aE,Cv,Dw,e7,e8];generalize az (seen++(b_ b).take k)=rr at*;simp (maxSteps:=9^9) [aJ.l1,setAt,hk,h1,ah,e5,e6,e9,aa,Nat.add_assoc])
  (fun k hk x c=>by
   obtain⟨v,w,x⟩:=x;have hk':k<(b_ b).length:=by rw[jQ];exact hk
   rw[qn hk'] at c;have hlen:(seen++(b_ b).take k).length=seen.length+k:=by rw[ax,eD,Nat.min_eq_left (by omega)]
   have h1:=aI.al hin (seen++(b_ b).take k) (b_ b)[k] (by rw[hlen];omega);rw[c] at h1;rw[pq] at h1;simp only[ints] at h1;have e9:(az (seen++(b_ b).take k)).length=seen.length+k:=by simp only[az,de];exact hlen
   simp only[Cv,Dw];generalize az (seen++(b_ b).take k)=rr at*;simp (maxSteps:=9^9) [aJ.l1,setAt,hk,h1,ah,e9,aa])
  (fun x=>by
   obtain⟨v,w,x⟩:=x;have e7:(b_ b).take b.ae.length=b_ b:=aa (by rw[jQ];omega);simp only[aE,Cv,Ix,Dw,e7];simp (maxSteps:=9^9) [aJ.l1])
theorem iL.ok{b:bA}(h:iL b):b.ae.length≤1048576∧b.gone.length≤4611686018427387904∧b.name.length≤4611686018427387904∧∀m∈b.ae,m.flags.length≤1048576:=⟨h.m,by have:=h.g;omega,by have:=h.n;omega,h.f⟩
structure aJ.ks (M:Nat→Option Body):Prop where
 box:bJ.k M
 JJ:aI.k M
 MG:dW.k M
 MS:cS.k M
theorem aJ.lY(h:aJ.ks M)(s:aT)(hs:gJ s)(K:Nat)(hK:2000000≤K)(i:Nat)(hi:i<s.boxes.length)(x:Nat×Nat×Nat)(c:qw s i=false):
  ∃y,ct (run M) K aJ.l0 (zU s i x)=some (.normal,zU s (i+1) y):=by
 have hb:=hs.i _ (aq hi);have h1:=bJ.al h.box s.boxes[i] hb.ok.1 hb.ok.2.1 hb.ok.2.2.1 hb.ok.2.2.2;have h2:=dW.al h.MG s s.boxes[i].name hs.b;have h3:=aI.al h.JJ s.gone s.boxes[i].gid (by have:=hs.g;omega);have h4:=cS.al h.MS s.boxes[i] s.time hb.m hb.f;have hsl:=sy hs i;obtain⟨g,hr⟩:=aJ.inner h.JJ s s.boxes[i] (seenAt s i) i K hb.m hsl;have hr2:=fun x=>gT (hr x) (show s.boxes[i].ae.length+1≤K by have:=hb.m;omega)
 rw[og hi,oG hi] at c;simp only[gi,Bool.and_eq_false_iff,Bool.not_eq_false',decide_eq_false_iff_not,decide_eq_true_eq] at c;obtain⟨⟨⟨⟨⟨c1,c2⟩,c3⟩,c4⟩,c5⟩,c6⟩:=c;have e5:IntKind.i64.wrap ((i:Int)+1)=(i:Int)+1:=wrap_i64 (by have:=hs.b;omega) (by have:=hs.b;omega);rw[c1] at h1;rw[c3] at h2;rw[decide_eq_false c4] at h3;rw[c5] at h4;have q:eJ (r9 (seenAt s i) (b_ s.boxes[i])) s.boxes[i].ae.length=none:=by
  unfold vh at c6;rw[jQ] at c6;simpa using c6
 rw[q] at hr2;obtain⟨v,w,x⟩:=x;simp only[af,ai] at h1 h2 h4;simp only[ints] at h3;have hz:az (seenAt s i++b_ s.boxes[i])=az (seenAt s i)++az (b_ s.boxes[i]):=by simp[az]
 simp[Cv,Ix,Dw,lz] at hr2;simp only[zU,Dw,pQ hi,aE];have hgl:=jQ s.boxes[i];by_cases c7:0<i
 ·have e6:IntKind.i64.wrap ((i:Int)-1)=((i-1:Nat):Int):=by rw[wrap_i64 (by have:=hs.b;omega) (by have:=hs.b;omega)];omega
  have c2':¬s.boxes[i].gid≤s.boxes[i-1].gid:=by
   rcases c2 with c2|c2
   ·exact absurd c7 c2
   ·exact c2
  simp (maxSteps:=9^9) [aJ.l0,ab,setAt,hi,h1,h2,h3,h4,c7,c2',e5,e6,hr2,hgl,af,(show i-1<s.boxes.length by omega)]
 ·simp (maxSteps:=9^9) [aJ.l0,ab,setAt,hi,h1,h2,h3,h4,c7,e5,hr2,hgl,af]
theorem aJ.bad(h:aJ.ks M)(s:aT)(hs:gJ s)(K:Nat)(hK:2000000≤K)(i:Nat)(hi:i<s.boxes.length)(x:Nat×Nat×Nat)(c:qw s i=true):
  ∃k,ct (run M) K aJ.l0 (zU s i x)=some (.ret,{t:=[(2,.c (.bool false))],o:=[],n:=k}):=by
 have hb:=hs.i _ (aq hi);have h1:=bJ.al h.box s.boxes[i] hb.ok.1 hb.ok.2.1 hb.ok.2.2.1 hb.ok.2.2.2;have h2:=dW.al h.MG s s.boxes[i].name hs.b;have h3:=aI.al h.JJ s.gone s.boxes[i].gid (by have:=hs.g;omega);have h4:=cS.al h.MS s.boxes[i] s.time hb.m hb.f;have hsl:=sy hs i;obtain⟨g,hr⟩:=aJ.inner h.JJ s s.boxes[i] (seenAt s i) i K hb.m hsl;have hr2:=fun x=>gT (hr x) (show s.boxes[i].ae.length+1≤K by have:=hb.m;omega)
 rw[og hi,oG hi] at c;obtain⟨v,w,x⟩:=x;simp only[af,ai] at h1 h2 h4;simp only[ints] at h3;simp only[zU,Dw];cases c1:fE s.boxes[i]
 ·rw[c1] at h1;simp (maxSteps:=9^9) [aJ.l0,ab,setAt,hi,h1,af]
 rw[c1] at h1;have tail:∀(hp:¬0<i∨¬s.boxes[i].gid≤s.boxes[i-1].gid),∃k,ct (run M) K aJ.l0 {t:=[(1,.c (.ptr 1 v 0 0)),(3,.c (.row 30 w 0 (seenAt s i).length)),(32,.c (boxes s.boxes)),(33,.c (I s.boxes.length)),(34,.c (I i))],o:=[(1,⟨v,4,true,true,[ai s]⟩),(30,⟨w,1,true,false,az (seenAt s i)⟩)],n:=x}=some (.ret,{t:=[(2,.c (.bool false))],o:=[],n:=k}):=by
  intro hp;have hpp:(decide (0<i)&&decide (s.boxes[i].gid≤s.boxes[i-1].gid))=false:=by
   rcases hp with hp|hp<;>simp[hp]
  have key:(∀(Q:Prop),(0<i→¬s.boxes[i].gid≤s.boxes[i-1].gid→Q)→(¬0<i→Q)→Q):=by
   intro Q q1 q2;by_cases c7:0<i
   ·rcases hp with hp|hp
    ·exact absurd c7 hp
    ·exact q1 c7 hp
   ·exact q2 c7
  have e6:0<i→IntKind.i64.wrap ((i:Int)-1)=((i-1:Nat):Int):=fun c7=>by rw[wrap_i64 (by have:=hs.b;omega) (by have:=hs.b;omega)];omega
  have hi1:i-1<s.boxes.length:=by omega
  by_cases c3:dO (named s.boxes s.boxes[i].name)=(i:Int);rotate_left
  ·exact key _ (fun c7 c2=>by simp (maxSteps:=9^9) [aJ.l0,ab,setAt,hi,h1,h2,c7,c2,c3,e6 c7,af,hi1]) (fun c7=>by simp (maxSteps:=9^9) [aJ.l0,ab,setAt,hi,h1,h2,c7,c3,af])
  rw[c3] at h2;by_cases c4:s.boxes[i].gid∈s.gone
  ·rw[decide_eq_true c4] at h3;exact key _ (fun c7 c2=>by simp (maxSteps:=9^9) [aJ.l0,ab,setAt,hi,h1,h2,h3,c7,c2,e6 c7,af,hi1]) (fun c7=>by simp (maxSteps:=9^9) [aJ.l0,ab,setAt,hi,h1,h2,h3,c7,af])
  rw[decide_eq_false c4] at h3;cases c5:late s.boxes[i] s.time;rotate_left
  ·rw[c5] at h4;exact key _ (fun c7 c2=>by simp (maxSteps:=9^9) [aJ.l0,ab,setAt,hi,h1,h2,h3,h4,c7,c2,e6 c7,af,hi1]) (fun c7=>by simp (maxSteps:=9^9) [aJ.l0,ab,setAt,hi,h1,h2,h3,h4,c7,af])
  rw[c5] at h4;have c6:vh (seenAt s i) (b_ s.boxes[i])=true:=by
   rw[c1,hpp,c3,c5] at c;simpa [c4] using c
  obtain⟨k,hk⟩:∃k,eJ (r9 (seenAt s i) (b_ s.boxes[i])) s.boxes[i].ae.length=some k:=by
   unfold vh at c6;rw[jQ] at c6;exact Option.isSome_iff_exists.1 c6
  rw[hk] at hr2;simp[Cv,Dw,lz] at hr2;have hgl:=jQ s.boxes[i];exact key _ (fun c7 c2=>by simp (maxSteps:=9^9) [aJ.l0,ab,setAt,hi,h1,h2,h3,h4,c7,c2,e6 c7,hr2,af,hi1]) (fun c7=>by simp (maxSteps:=9^9) [aJ.l0,ab,setAt,hi,h1,h2,h3,h4,c7,hr2,af])
 by_cases c7:0<i
 ·by_cases c2:s.boxes[i].gid≤s.boxes[i-1].gid
  ·have e6:IntKind.i64.wrap ((i:Int)-1)=((i-1:Nat):Int):=by rw[wrap_i64 (by have:=hs.b;omega) (by have:=hs.b;omega)];omega
   simp (maxSteps:=9^9) [aJ.l0,ab,setAt,hi,h1,c7,c2,e6,af,(show i-1<s.boxes.length by omega)]
  ·exact tail (.inr c2)
 ·exact tail (.inl c7)
theorem aJ.al(h:aJ.k M)(s:aT)(hs:gJ s):run M 150 [.a (ai s)] []=some (.c (.bool (a8 s)),[]):=by
 obtain⟨h0,k1,k2,k3,k4,k5,k6⟩:=h;have h1:=bV.j_ k2 s.df 1 2;have h2:=bV.j_ k2 s.time 0 100000;have h3:=dw.al k4 s.gone 20 (by have:=hs.g;omega);refine aA (b:=aJ.m) h0 ⟨4000000, ?_⟩;obtain⟨K,hK⟩:∃K,4000000=K:=⟨_,rfl⟩
 rw[hK];obtain⟨g,hr⟩:=iN (f:=ct (run M) K aJ.l0) s.boxes.length (qw s) (zU s) 2 (.bool false) 0 (KN s)
  (fun i hi x c=>aJ.lY ⟨k1,k3,k5,k6⟩ s hs K (by omega) i hi x c)
  (fun i hi x c=>aJ.bad ⟨k1,k3,k5,k6⟩ s hs K (by omega) i hi x c)
  (fun x=>by
   obtain⟨v,w,x⟩:=x;simp only[aE];simp (maxSteps:=9^9) [aJ.l0,ab,zU,KN,Dw])
 have hr2:=fun x=>gT (hr x) (show s.boxes.length+1≤K by have:=hs.b;omega)
 cases c1:j_ 1 s.df 2
 ·simp (maxSteps:=9^9) [ba,aJ.m,aJ.b,ab,h1,c1,a8]
 cases c2:j_ 0 s.time 100000
 ·simp (maxSteps:=9^9) [ba,aJ.m,aJ.b,ab,h1,h2,c1,c2,a8]
 by_cases c3:5<s.boxes.length
 ·have c3':¬s.boxes.length≤5:=by omega
  have ci:(5:Int)<s.boxes.length:=by omega
  simp (maxSteps:=9^9) [ba,aJ.m,aJ.b,ab,h1,h2,c1,c2,c3',ci,a8]
 have c3':s.boxes.length≤5:=by omega
 have ci:¬(5:Int)<s.boxes.length:=by omega
 cases c4:lZ s.gone 20
 ·simp (maxSteps:=9^9) [ba,aJ.m,aJ.b,ab,h1,h2,h3,c1,c2,ci,c4,a8]
 have hz:seenAt s 0=[]:=by simp[seenAt]
 cases q:eJ (qw s) s.boxes.length with
 |none=>
  simp[zU,KN,Dw,q,lz,hz,az] at hr2;simp (maxSteps:=9^9) [ba,aJ.m,aJ.b,ab,h1,h2,h3,c1,c2,c3',ci,c4,hr2,a8,q]
 |some k=>
  simp[zU,Dw,q,lz,hz,az] at hr2;simp (maxSteps:=9^9) [ba,aJ.m,aJ.b,ab,h1,h2,h3,c1,c2,c3',ci,c4,hr2,a8,q]
def KL(s:aT)(seen:List Int)(x:Nat×Nat×Nat):List (Nat×Ob):=[(1,⟨x.1,4,true,true,[ai s]⟩),(29,⟨x.2.1,1,true,false,az seen⟩)]
def zT(s:aT)(i:Nat)(x:Nat×Nat×Nat):St:={t:=[(1,.c (.ptr 1 x.1 0 0)),(3,.c (.row 29 x.2.1 0 (seenAt s i).length)),(4,.c (I i))],o:=KL s (seenAt s i) x,n:=x.2.2}
def KM(s:aT)(x:Nat×Nat×Nat):St:={t:=[(1,.c (.ptr 1 x.1 0 0)),(3,.c (.row 29 x.2.1 0 (seenAt s s.boxes.length).length)),(4,.c (I s.boxes.length)),(34,.c (.bool false))],o:=KL s (seenAt s s.boxes.length) x,n:=x.2.2}
def Cq(s:aT)(b:bA)(seen:List Int)(x:Nat×Nat×Nat×Nat):List (Nat×Ob):=[(1,⟨x.1,4,true,true,[ai s]⟩),(5,⟨x.2.2.1,7,true,true,[af b]⟩),(29,⟨x.2.1,1,true,false,az seen⟩)]
def Cp(s:aT)(b:bA)(seen:List Int)(i k:Nat)(x:Nat×Nat×Nat×Nat):St:={t:=[(1,.c (.ptr 1 x.1 0 0)),(3,.c (.row 29 x.2.1 0 (seen.length+k))),(4,.c (I i)),(5,.c (.ptr 5 x.2.2.1 0 0)),(6,.c (I k))],o:=Cq s b (seen++(b_ b).take k) x,n:=x.2.2.2}
def Iw(s:aT)(b:bA)(seen:List Int)(i:Nat)(x:Nat×Nat×Nat×Nat):St:={t:=[(1,.c (.ptr 1 x.1 0 0)),(3,.c (.row 29 x.2.1 0 (seen.length+b.ae.length))),(4,.c (I i)),(5,.c (.ptr 5 x.2.2.1 0 0)),(6,.c (I b.ae.length)),(87,.c (.bool false))],o:=Cq s b (seen++b_ b) x,n:=x.2.2.2}
theorem aL.inner(hin:bj.k M)(s:aT)(b:bA)(seen:List Int)(i K:Nat)(hl:b.ae.length≤1048576)(hs:seen.length≤1048576):
  ∃g:Nat×Nat×Nat×Nat→(Nat×Nat×Nat×Nat)×Nat,∀x,eZ (ct (run M) K aL.l1) (b.ae.length+1) (Cp s b seen i 0 x)=some (lz 2 (.bool false) 2 (Iw s b seen i) (eJ (r9 seen (b_ b)) b.ae.length) (g x)):=
 iN b.ae.length (r9 seen (b_ b)) (Cp s b seen i) 2 (.bool false) 2 (Iw s b seen i)
  (fun k hk x c=>by
   obtain⟨v,w,z,x⟩:=x;have hk':k<(b_ b).length:=by rw[jQ];exact hk
   rw[qn hk'] at c;have hlen:(seen++(b_ b).take k).length=seen.length+k:=by rw[ax,eD,Nat.min_eq_left (by omega)]
   have h1:=bj.al hin (seen++(b_ b).take k) (b_ b)[k] (by rw[hlen];omega);rw[c] at h1;rw[pq] at h1;simp only[ints] at h1;have e5:=cA (i:=k) (by omega);have e6:seen.length+(k+1)≤4294967296:=by omega
   have e7:seen++(b_ b).take (k+1)=(seen++(b_ b).take k)++[b.ae[k].gid]:=by rw[List.take_succ_eq_append_getElem hk',pq,bN]
   have e8:az ((seen++(b_ b).take k)++[b.ae[k].gid])=az (seen++(b_ b).take k)++[[I b.ae[k].gid]]:=by simp[az]
   have e9:(az (seen++(b_ b).take k)).length=seen.length+k:=by simp only[az,de];exact hlen
   simp only[aE,Cp,Cq,e7,e8];generalize az (seen++(b_ b).take k)=rr at*;simp (maxSteps:=9^9) [aL.l1,hk,h1,ah,e5,e6,e9,aa,Nat.add_assoc];exact⟨_,_,_,⟨rfl,rfl,rfl⟩,rfl,rfl,rfl⟩)
  (fun k hk x c=>by
   obtain⟨v,w,z,x⟩:=x;have hk':k<(b_ b).length:=by rw[jQ];exact hk
   rw[qn hk'] at c;have hlen:(seen++(b_ b).take k).length=seen.length+k:=by rw[ax,eD,Nat.min_eq_left (by omega)]
   have h1:=bj.al hin (seen++(b_ b).take k) (b_ b)[k] (by rw[hlen];omega);rw[c] at h1;rw[pq] at h1;simp only[ints] at h1;have e9:(az (seen++(b_ b).take k)).length=seen.length+k:=by simp only[az,de];exact hlen
   simp only[Cp,Cq];generalize az (seen++(b_ b).take k)=rr at*;simp (maxSteps:=9^9) [aL.l1,hk,h1,ah,e9,aa])
  (fun x=>by
   obtain⟨v,w,z,x⟩:=x;have e7:(b_ b).take b.ae.length=b_ b:=aa (by rw[jQ];omega);simp only[aE,Cp,Iw,Cq,e7];simp (maxSteps:=9^9) [aL.l1];exact⟨_,_,_,⟨rfl,rfl,rfl⟩,rfl,rfl,rfl⟩)
structure aL.ks (M:Nat→Option Body):Prop where
 box:bE.k M
 JJ:bj.k M
 MG:cH.k M
 MS:b5.k M
theorem aL.lY(h:aL.ks M)(s:aT)(hs:gJ s)(K:Nat)(hK:2000000≤K)(i:Nat)(hi:i<s.boxes.length)(x:Nat×Nat×Nat)(c:qw s i=false):
  ∃y,ct (run M) K aL.l0 (zT s i x)=some (.normal,zT s (i+1) y):=by
 have hb:=hs.i _ (aq hi);have h1:=bE.al h.box s.boxes[i] hb.ok.1 hb.ok.2.1 hb.ok.2.2.1 hb.ok.2.2.2;have h2:=cH.al h.MG s s.boxes[i].name hs.b;have h3:=bj.al h.JJ s.gone s.boxes[i].gid (by have:=hs.g;omega);have h4:=b5.al h.MS s.boxes[i] s.time hb.m hb.f;have hsl:=sy hs i;obtain⟨g,hr⟩:=aL.inner h.JJ s s.boxes[i] (seenAt s i) i K hb.m hsl;have hr2:=fun x=>gT (hr x) (show s.boxes[i].ae.length+1≤K by have:=hb.m;omega)
 rw[og hi,oG hi] at c;simp only[gi,Bool.and_eq_false_iff,Bool.not_eq_false',decide_eq_false_iff_not,decide_eq_true_eq] at c;obtain⟨⟨⟨⟨⟨c1,c2⟩,c3⟩,c4⟩,c5⟩,c6⟩:=c;have e5:IntKind.i64.wrap ((i:Int)+1)=(i:Int)+1:=wrap_i64 (by have:=hs.b;omega) (by have:=hs.b;omega);rw[c1] at h1;rw[c3] at h2;rw[decide_eq_false c4] at h3;rw[c5] at h4;have q:eJ (r9 (seenAt s i) (b_ s.boxes[i])) s.boxes[i].ae.length=none:=by
  unfold vh at c6;rw[jQ] at c6;simpa using c6
 rw[q] at hr2;obtain⟨v,w,x⟩:=x;simp only[af,ai] at h1 h2 h4;simp only[ints] at h3;have hz:az (seenAt s i++b_ s.boxes[i])=az (seenAt s i)++az (b_ s.boxes[i]):=by simp[az]
 simp[Cp,Iw,Cq,lz] at hr2;simp only[zT,KL,pQ hi,aE];have hgl:=jQ s.boxes[i];by_cases c7:0<i
 ·have e6:IntKind.i64.wrap ((i:Int)-1)=((i-1:Nat):Int):=by rw[wrap_i64 (by have:=hs.b;omega) (by have:=hs.b;omega)];omega
  have c2':¬s.boxes[i].gid≤s.boxes[i-1].gid:=by
   rcases c2 with c2|c2
   ·exact absurd c7 c2
   ·exact c2
  simp (maxSteps:=9^9) [aL.l0,ab,setAt,hi,h1,h2,h3,h4,c7,c2',e5,e6,hr2,hgl,af,(show i-1<s.boxes.length by omega)]
 ·simp (maxSteps:=9^9) [aL.l0,ab,setAt,hi,h1,h2,h3,h4,c7,e5,hr2,hgl,af]
theorem aL.bad(h:aL.ks M)(s:aT)(hs:gJ s)(K:Nat)(hK:2000000≤K)(i:Nat)(hi:i<s.boxes.length)(x:Nat×Nat×Nat)(c:qw s i=true):
  ∃k,ct (run M) K aL.l0 (zT s i x)=some (.ret,{t:=[(2,.c (.bool false))],o:=[],n:=k}):=by
 have hb:=hs.i _ (aq hi);have h1:=bE.al h.box s.boxes[i] hb.ok.1 hb.ok.2.1 hb.ok.2.2.1 hb.ok.2.2.2;have h2:=cH.al h.MG s s.boxes[i].name hs.b;have h3:=bj.al h.JJ s.gone s.boxes[i].gid (by have:=hs.g;omega);have h4:=b5.al h.MS s.boxes[i] s.time hb.m hb.f;have hsl:=sy hs i;obtain⟨g,hr⟩:=aL.inner h.JJ s s.boxes[i] (seenAt s i) i K hb.m hsl;have hr2:=fun x=>gT (hr x) (show s.boxes[i].ae.length+1≤K by have:=hb.m;omega)
 rw[og hi,oG hi] at c;obtain⟨v,w,x⟩:=x;simp only[af,ai] at h1 h2 h4;simp only[ints] at h3;simp only[zT,KL];cases c1:fE s.boxes[i]
 ·rw[c1] at h1;simp (maxSteps:=9^9) [aL.l0,ab,setAt,hi,h1,af]
 rw[c1] at h1;have tail:∀(hp:¬0<i∨¬s.boxes[i].gid≤s.boxes[i-1].gid),∃k,ct (run M) K aL.l0 {t:=[(1,.c (.ptr 1 v 0 0)),(3,.c (.row 29 w 0 (seenAt s i).length)),(4,.c (I i))],o:=[(1,⟨v,4,true,true,[ai s]⟩),(29,⟨w,1,true,false,az (seenAt s i)⟩)],n:=x}=some (.ret,{t:=[(2,.c (.bool false))],o:=[],n:=k}):=by
  intro hp;have hpp:(decide (0<i)&&decide (s.boxes[i].gid≤s.boxes[i-1].gid))=false:=by
   rcases hp with hp|hp<;>simp[hp]
  have key:(∀(Q:Prop),(0<i→¬s.boxes[i].gid≤s.boxes[i-1].gid→Q)→(¬0<i→Q)→Q):=by
   intro Q q1 q2;by_cases c7:0<i
   ·rcases hp with hp|hp
    ·exact absurd c7 hp
    ·exact q1 c7 hp
   ·exact q2 c7
  have e6:0<i→IntKind.i64.wrap ((i:Int)-1)=((i-1:Nat):Int):=fun c7=>by rw[wrap_i64 (by have:=hs.b;omega) (by have:=hs.b;omega)];omega
  have hi1:i-1<s.boxes.length:=by omega
  by_cases c3:dO (named s.boxes s.boxes[i].name)=(i:Int);rotate_left
  ·exact key _ (fun c7 c2=>by simp (maxSteps:=9^9) [aL.l0,ab,setAt,hi,h1,h2,c7,c2,c3,e6 c7,af,hi1]) (fun c7=>by simp (maxSteps:=9^9) [aL.l0,ab,setAt,hi,h1,h2,c7,c3,af])
  rw[c3] at h2;by_cases c4:s.boxes[i].gid∈s.gone
  ·rw[decide_eq_true c4] at h3;exact key _ (fun c7 c2=>by simp (maxSteps:=9^9) [aL.l0,ab,setAt,hi,h1,h2,h3,c7,c2,e6 c7,af,hi1]) (fun c7=>by simp (maxSteps:=9^9) [aL.l0,ab,setAt,hi,h1,h2,h3,c7,af])
  rw[decide_eq_false c4] at h3;cases c5:late s.boxes[i] s.time;rotate_left
  ·rw[c5] at h4;exact key _ (fun c7 c2=>by simp (maxSteps:=9^9) [aL.l0,ab,setAt,hi,h1,h2,h3,h4,c7,c2,e6 c7,af,hi1]) (fun c7=>by simp (maxSteps:=9^9) [aL.l0,ab,setAt,hi,h1,h2,h3,h4,c7,af])
  rw[c5] at h4;have c6:vh (seenAt s i) (b_ s.boxes[i])=true:=by
   rw[c1,hpp,c3,c5] at c;simpa [c4] using c
  obtain⟨k,hk⟩:∃k,eJ (r9 (seenAt s i) (b_ s.boxes[i])) s.boxes[i].ae.length=some k:=by
   unfold vh at c6;rw[jQ] at c6;exact Option.isSome_iff_exists.1 c6
  rw[hk] at hr2;simp[Cp,Cq,lz] at hr2;have hgl:=jQ s.boxes[i];exact key _ (fun c7 c2=>by simp (maxSteps:=9^9) [aL.l0,ab,setAt,hi,h1,h2,h3,h4,c7,c2,e6 c7,hr2,af,hi1]) (fun c7=>by simp (maxSteps:=9^9) [aL.l0,ab,setAt,hi,h1,h2,h3,h4,c7,hr2,af])
 by_cases c7:0<i
 ·by_cases c2:s.boxes[i].gid≤s.boxes[i-1].gid
  ·have e6:IntKind.i64.wrap ((i:Int)-1)=((i-1:Nat):Int):=by rw[wrap_i64 (by have:=hs.b;omega) (by have:=hs.b;omega)];omega
   simp (maxSteps:=9^9) [aL.l0,ab,setAt,hi,h1,c7,c2,e6,af,(show i-1<s.boxes.length by omega)]
  ·exact tail (.inr c2)
 ·exact tail (.inl c7)
theorem aL.al(h:aL.k M)(s:aT)(hs:gJ s):run M 149 [.a (ai s)] []=some (.c (.bool (a8 s)),[]):=by
 obtain⟨h0,k1,k2,k3,k4,k5,k6⟩:=h;have h1:=bR.j_ k2 s.df 1 2;have h2:=bR.j_ k2 s.time 0 100000;have h3:=cD.al k4 s.gone 20 (by have:=hs.g;omega);refine aA (b:=aL.m) h0 ⟨4000000, ?_⟩;obtain⟨K,hK⟩:∃K,4000000=K:=⟨_,rfl⟩
 rw[hK];obtain⟨g,hr⟩:=iN (f:=ct (run M) K aL.l0) s.boxes.length (qw s) (zT s) 2 (.bool false) 0 (KM s)
  (fun i hi x c=>aL.lY ⟨k1,k3,k5,k6⟩ s hs K (by omega) i hi x c)
  (fun i hi x c=>aL.bad ⟨k1,k3,k5,k6⟩ s hs K (by omega) i hi x c)
  (fun x=>by
   obtain⟨v,w,x⟩:=x;simp only[aE];simp (maxSteps:=9^9) [aL.l0,ab,zT,KM,KL])
 have hr2:=fun x=>gT (hr x) (show s.boxes.length+1≤K by have:=hs.b;omega)
 cases c1:j_ 1 s.df 2
 ·simp (maxSteps:=9^9) [ba,aL.m,aL.b,ab,h1,c1,a8]
 cases c2:j_ 0 s.time 100000
 ·simp (maxSteps:=9^9) [ba,aL.m,aL.b,ab,h1,h2,c1,c2,a8]
 by_cases c3:5<s.boxes.length
 ·have c3':¬s.boxes.length≤5:=by omega
  have ci:(5:Int)<s.boxes.length:=by omega
  simp (maxSteps:=9^9) [ba,aL.m,aL.b,ab,h1,h2,c1,c2,c3',ci,a8]
 have c3':s.boxes.length≤5:=by omega
 have ci:¬(5:Int)<s.boxes.length:=by omega
 cases c4:lZ s.gone 20
 ·simp (maxSteps:=9^9) [ba,aL.m,aL.b,ab,h1,h2,h3,c1,c2,ci,c4,a8]
 have hz:seenAt s 0=[]:=by simp[seenAt]
 cases q:eJ (qw s) s.boxes.length with
 |none=>
  simp[zT,KM,KL,q,lz,hz,az] at hr2;simp (maxSteps:=9^9) [ba,aL.m,aL.b,ab,h1,h2,h3,c1,c2,c3',ci,c4,hr2,a8,q]
 |some k=>
  simp[zT,KL,q,lz,hz,az] at hr2;simp (maxSteps:=9^9) [ba,aL.m,aL.b,ab,h1,h2,h3,c1,c2,c3',ci,c4,hr2,a8,q]
theorem jI{a n b:Int}:j_ a n b=true↔a≤n∧n≤b:=by simp[j_]
def cZ(n:Int):List UInt8:=gE n.toNat
theorem FP{n:Int}(h:n≤9223372036854775807):(cZ n).length≤10:=jc (by omega)
theorem bH.int(h:bH.k M)(n:Int)(h0:0≤n)(h1:n≤9223372036854775807):run M 99 [.c (I n)] []=some (.c (S (cZ n)),[]):=by
 have:=bH.al h n.toNat (by omega);rw[show ((n.toNat:Nat):Int)=n by omega] at this;exact this
theorem cU.int(h:cU.k M)(n:Int)(h0:0≤n)(h1:n≤1000000000):run M 230 [.c (I n)] []=some (.lN [.c (S (cZ n)),.c (.bool true)],[]):=by
 have:=cU.al h n.toNat (by omega);rw[show ((n.toNat:Nat):Int)=n by omega,if_pos (by omega),decide_eq_true (by omega)] at this;exact this
def isVar(n:Int):Prop:=0≤n∧n≤1000000000
theorem cz{n:Int}(h:isVar n):(cZ n).length≤10:=FP (by have:=h.2;omega)
def Np(l:List Int)(i:Nat)(s:List UInt8)(x:Nat):St:={t:=[(3,.c (S s)),(8,.c (ints l)),(9,.c (I l.length)),(10,.c (I i))],o:=[],n:=x}
def N6(l:List Int)(s:List UInt8)(x:Nat):St:={t:=[(3,.c (S s)),(8,.c (ints l)),(9,.c (I l.length)),(10,.c (I l.length)),(11,.c (.bool false))],o:=[],n:=x}
theorem fW.al(h:fW.k M)(l:List Int)(hl:l.length≤1048576)(hv:∀n∈l,isVar n):run M 151 [.c (ints l)] []=some (.c (S (texts cZ l)),[]):=by
 refine aA (b:=fW.m) h.1 ⟨l.length+1, ?_⟩;obtain⟨g,hr⟩:=nu (f:=ct (run M) (l.length+1) fW.l0) l cZ 10 0 (fun n hn=>cz (hv n hn)) (Np l) 0 (N6 l)
  (fun i hi s x hs=>by
   have e5:=cA (i:=i) (by omega);have h1:=cU.int h.2 l[i] (hv _ (aq hi)).1 (hv _ (aq hi)).2;have h2:=cz (hv _ (aq hi));simp (maxSteps:=9^9) (disch:=(first|omega|(simp;done)|(simp;omega))) [fW.l0,bL,Np,hi,h1,e5])
  (fun s x=>by simp (maxSteps:=9^9) [fW.l0,Np,N6]) [] (by simp)
 simp[Np,N6] at hr;simp (maxSteps:=9^9) [ba,fW.m,fW.b,ab,hr]
def sS(r:nE):List UInt8:=texts cZ [r.val,r.time,r.df]
def mA(m:bp):List UInt8:=texts cZ [m.gid,m.uid]++texts sS m.flags++fK m.text
theorem tv{r:nE}(h:ot r=true):isVar r.val∧isVar r.time∧isVar r.df:=by
 simp only[ot,kM,aj,jI] at h;unfold isVar;omega
theorem pb{l:List nE}(h:lQ l=true):l.length=3∧∀r∈l,ot r=true:=by
 simp only[lQ,aj,decide_eq_true_eq,cn,ju] at h;refine⟨h.2,fun r hr=> ?_⟩;obtain⟨i,hi,e⟩:=bW hr;have:=h.1 i hi;rw[oF hi,e] at this;simp at this;exact this.1
theorem me{m:bp}(h:i_ m=true):isVar m.gid∧isVar m.uid∧m.flags.length=3∧(∀r∈m.flags,ot r=true)∧m.text.length≤60:=by
 simp only[i_,aj,jI,decide_eq_true_eq] at h;have hf:=pb h.1.2;exact⟨⟨by omega,by omega⟩,⟨by omega,by omega⟩,hf.1,hf.2,h.2⟩
theorem p_{r:nE}(h:ot r=true):(sS r).length≤30:=by
 have h1:=tv h;have:=cz h1.1;have:=cz h1.2.1;have:=cz h1.2.2;simp[sS,texts];omega
theorem oy{m:bp}(h:i_ m=true):(mA m).length≤1000:=by
 obtain⟨h1,h2,h3,h4,h5⟩:=me h;have:=cz h1;have:=cz h2;have h6:=jJ sS m.flags 30 fun r hr=>p_ (h4 r hr)
 have h7:=jc (n:=m.text.length) (by omega);rw[h3] at h6;simp only[mA,fK,ax];have:(texts cZ [m.gid,m.uid]).length≤20:=by simp[texts];omega
 omega
def NH(m:bp)(i:Nat)(s:List UInt8)(x:Nat×Nat):St:={t:=[(1,.c (.ptr 1 x.1 0 0)),(4,.c (S s)),(17,.c (jM m.flags)),(18,.c (I m.flags.length)),(19,.c (I i))],o:=[(1,⟨x.1,4,true,true,[ah m]⟩)],n:=x.2}
def Oo(m:bp)(s:List UInt8)(x:Nat×Nat):St:={t:=[(1,.c (.ptr 1 x.1 0 0)),(4,.c (S s)),(17,.c (jM m.flags)),(18,.c (I m.flags.length)),(19,.c (I m.flags.length)),(20,.c (.bool false))],o:=[(1,⟨x.1,4,true,true,[ah m]⟩)],n:=x.2}
theorem eS.al(h:eS.k M)(m:bp)(hl:m.flags.length≤1048576):run M 213 [.a (ah m)] []=some (.lN [.c (S (if i_ m=true then mA m else [])),.c (.bool (i_ m))],[]):=by
 obtain⟨h0,ks,kv,ko⟩:=h;have h1:=e_.al ko m hl;refine aA (b:=eS.m) h0 ⟨m.flags.length+1, ?_⟩;simp only[ah] at h1;cases c:i_ m
 ·rw[c] at h1;simp (maxSteps:=9^9) [ba,eS.m,eS.b,ab,h1]
 rw[c] at h1;obtain⟨v1,v2,v3,v4,v5⟩:=me c;have h2:=fW.al kv [m.gid,m.uid] (by simp) (by simp;exact⟨v1,v2⟩);have h3:=jF.al ks m.text (by omega);have l1:(texts cZ [m.gid,m.uid]).length≤20:=by have:=cz v1;have:=cz v2;simp[texts];omega
 obtain⟨g,hr⟩:=nu (f:=ct (run M) (m.flags.length+1) eS.l0) m.flags sS 30 20 (fun r hr=>p_ (v4 r hr)) (NH m) 0 (Oo m)
  (fun i hi s x hs=>by
   obtain⟨v,x⟩:=x;have e5:=cA (i:=i) (by omega);have hx:=tv (v4 _ (aq hi));have h4:=fW.al kv [m.flags[i].val,m.flags[i].time,m.flags[i].df] (by simp) (by simp;exact⟨hx.1,hx.2.1,hx.2.2⟩);have h5:=p_ (v4 _ (aq hi));change run M 151 _ _=some (.c (S (sS m.flags[i])),[]) at h4;simp only[ints,az,bq,bF] at h4;simp only[aE];simp (maxSteps:=9^9) (disch:=(first|omega|(simp;done)|(simp;omega))) [eS.l0,aa,setAt,bL,NH,hi,h4,e5,aS])
  (fun s x=>by
   obtain⟨v,x⟩:=x;simp only[aE];simp (maxSteps:=9^9) [eS.l0,NH,Oo]) (texts cZ [m.gid,m.uid]) l1
 have l2:=jJ sS m.flags 30 fun r hr=>p_ (v4 r hr)
 have l3:=jc (n:=m.text.length) (by omega);have l4:(fK m.text).length≤70:=by simp[fK];omega
 have l5:(texts cZ [m.gid,m.uid]++texts sS m.flags).length+(fK m.text).length≤4611686018427387904:=by simp;omega
 simp only[ints,az,bq,bF] at h2;generalize hp:texts cZ [m.gid,m.uid]=p at*;simp[NH,Oo] at hr;simp at l5;simp (maxSteps:=9^9) (disch:=(first|omega|(simp;done)|(simp;omega))) [ba,eS.m,eS.b,ab,aa,bL,hr,h1,h2,h3,mA,hp]
def NI(m:bp)(i:Nat)(s:List UInt8)(x:Nat×Nat):St:={t:=[(1,.c (.ptr 1 x.1 0 0)),(4,.c (S s)),(5,.c (I i))],o:=[(1,⟨x.1,4,true,true,[ah m]⟩)],n:=x.2}
def Oq(m:bp)(s:List UInt8)(x:Nat×Nat):St:={t:=[(1,.c (.ptr 1 x.1 0 0)),(4,.c (S s)),(5,.c (I m.flags.length)),(20,.c (.bool false))],o:=[(1,⟨x.1,4,true,true,[ah m]⟩)],n:=x.2}
theorem eQ.al(h:eQ.k M)(m:bp)(hl:m.flags.length≤1048576):run M 122 [.a (ah m)] []=some (.lN [.c (S (if i_ m=true then mA m else [])),.c (.bool (i_ m))],[]):=by
 obtain⟨h0,kv,ko⟩:=h;have h1:=d_.al ko m hl;refine aA (b:=eQ.m) h0 ⟨m.flags.length+1, ?_⟩;simp only[ah] at h1;cases c:i_ m
 ·rw[c] at h1;simp (maxSteps:=9^9) [ba,eQ.m,eQ.b,ab,h1]
 rw[c] at h1;obtain⟨v1,v2,v3,v4,v5⟩:=me c;have h2:=bH.int kv m.gid v1.1 (by have:=v1.2;omega);have h2':=bH.int kv m.uid v2.1 (by have:=v2.2;omega);have h3:=bH.al kv m.text.length (by omega);have l0:=cz v1;have l0':=cz v2;obtain⟨g,hr⟩:=nu (f:=ct (run M) (m.flags.length+1) eQ.l0) m.flags sS 30 20 (fun r hr=>p_ (v4 r hr)) (NI m) 0 (Oq m)
  (fun i hi s x hs=>by
   obtain⟨v,x⟩:=x;have e5:=cA (i:=i) (by omega);have hx:=tv (v4 _ (aq hi));have h4:=bH.int kv m.flags[i].val hx.1.1 (by have:=hx.1.2;omega);have h5:=bH.int kv m.flags[i].time hx.2.1.1 (by have:=hx.2.1.2;omega);have h6:=bH.int kv m.flags[i].df hx.2.2.1 (by have:=hx.2.2.2;omega);have l1:=cz hx.1;have l2:=cz hx.2.1;have l3:=cz hx.2.2;simp only[aE];simp (maxSteps:=9^9) (disch:=(first|omega|(simp;done)|(simp;omega))) [eQ.l0,bL,NI,hi,h4,h5,h6,e5,aS,sS,texts])
  (fun s x=>by
   obtain⟨v,x⟩:=x;simp only[aE];simp (maxSteps:=9^9) [eQ.l0,NI,Oq]) (cZ m.gid++cZ m.uid) (by simp;omega)
 have l2:=jJ sS m.flags 30 fun r hr=>p_ (v4 r hr)
 have l3:=jc (n:=m.text.length) (by omega);have hp:texts cZ [m.gid,m.uid]=cZ m.gid++cZ m.uid:=by simp[texts]
 have hm:mA m=cZ m.gid++(cZ m.uid++(texts sS m.flags++(gE m.text.length++m.text))):=by simp[mA,hp,fK]
 simp[NI,Oq] at hr;rw[hm];simp (maxSteps:=9^9) (disch:=(first|omega|(simp;done)|(simp;omega))) [ba,eQ.m,eQ.b,ab,aa,bL,hr,h1,h2,h2',h3]
theorem zS{t w:Int}(h:kM t w=true):isVar t∧isVar w:=by
 simp only[kM,aj,jI] at h;unfold isVar;omega
theorem nW{l:List Int}{most:Int}(h:lZ l most=true):(l.length:Int)≤most∧∀n∈l,1≤n∧n≤9999:=by
 simp only[lZ,aj,decide_eq_true_eq,cn,ju] at h;refine⟨h.2,fun r hr=> ?_⟩;obtain⟨i,hi,e⟩:=bW hr;have:=h.1 i hi;rw[oE hi,e] at this;simp at this;exact jI.1 this.1
theorem mZ{l:List UInt8}(h:nF l=true):1≤l.length∧l.length≤12:=by
 simp only[nF,aj,jI] at h;omega
theorem jR{b:bA}(h:fE b=true):isVar b.gid∧b.name.length≤12∧isVar b.time∧isVar b.df∧isVar b.next∧b.ae.length≤10∧b.gone.length≤40∧(∀n∈b.gone,isVar n)∧∀m∈b.ae,i_ m=true:=by
 simp only[fE,aj,decide_eq_true_eq,cn,ju,jI] at h;obtain⟨⟨⟨⟨⟨⟨h1,h2⟩,h3⟩,h4⟩,h5⟩,h6⟩,h7⟩:=h;have hn:=mZ h2;have hs:=zS h3;have hg:=nW h6;refine⟨⟨by omega,by omega⟩,hn.2,hs.1,hs.2,⟨by omega,by omega⟩,h5,by omega,fun n hn=>⟨by have:=hg.2 n hn;omega,by have:=hg.2 n hn;omega⟩,fun m hm=> ?_⟩;obtain⟨i,hi,e⟩:=bW hm;have:=h7 i hi;rw[nR hi,e] at this;simp at this;exact this.1.1.1.1
def so(b:bA):List UInt8:=cZ b.gid++(gE b.name.length++(b.name++(cZ b.time++(cZ b.df++(cZ b.next++gE b.ae.length)))))
def oX(b:bA):List UInt8:=so b++(texts mA b.ae++(gE b.gone.length++texts cZ b.gone))
theorem yu{b:bA}(h:fE b=true):(so b).length≤200:=by
 obtain⟨h1,h2,h3,h4,h5,h6,_⟩:=jR h;have:=cz h1;have:=cz h3;have:=cz h4;have:=cz h5;have:=jc (n:=b.name.length) (by omega);have:=jc (n:=b.ae.length) (by omega);simp[so];omega
def NU(b:bA)(i:Nat)(s:List UInt8)(x:Nat×Nat):St:={t:=[(1,.c (.ptr 1 x.1 0 0)),(3,.c (S s)),(31,.c (ae b.ae)),(32,.c (I b.ae.length)),(33,.c (I i))],o:=[(1,⟨x.1,7,true,true,[af b]⟩)],n:=x.2}
def OL(b:bA)(s:List UInt8)(x:Nat×Nat):St:={t:=[(1,.c (.ptr 1 x.1 0 0)),(3,.c (S s)),(31,.c (ae b.ae)),(32,.c (I b.ae.length)),(33,.c (I b.ae.length)),(34,.c (.bool false))],o:=[(1,⟨x.1,7,true,true,[af b]⟩)],n:=x.2}
theorem fp.al(h:fp.k M)(b:bA)(c:fE b=true):run M 123 [.a (af b)] []=some (.c (S (oX b)),[]):=by
 obtain⟨h0,ks,kv,km⟩:=h;refine aA (b:=fp.m) h0 ⟨b.ae.length+1, ?_⟩;obtain⟨v1,v2,v3,v4,v5,v6,v7,v8,v9⟩:=jR c;have h1:=fW.al kv [b.gid] (by simp) (by simp;exact v1);have h2:=jF.al ks b.name (by omega);have h3:=fW.al kv [b.time,b.df,b.next,b.ae.length] (by simp) (by simp;exact⟨v3,v4,v5,by unfold isVar;omega⟩);have h4:=fW.al kv [b.gone.length] (by simp) (by simp;unfold isVar;omega);have h5:=fW.al kv b.gone (by omega) v8;have l1:=cz v1;have l3:=cz v3;have l4:=cz v4;have l5:=cz v5;have l6:=jc (n:=b.name.length) (by omega);have l7:=jc (n:=b.ae.length) (by omega);have l8:=jc (n:=b.gone.length) (by omega);have l9:=jJ cZ b.gone 10 fun n hn=>cz (v8 n hn)
 have l10:=jJ mA b.ae 1000 fun m hm=>oy (v9 m hm)
 have hp:=yu c;obtain⟨g,hr⟩:=nu (f:=ct (run M) (b.ae.length+1) fp.l0) b.ae mA 1000 200 (fun m hm=>oy (v9 m hm)) (NU b) 0 (OL b)
  (fun i hi s x hs=>by
   obtain⟨v,x⟩:=x;have e5:=cA (i:=i) (by omega);have hx:=v9 _ (aq hi);have h6:=eS.al km b.ae[i] (by have:=(me hx).2.2.1;omega);rw[if_pos hx,hx] at h6;have h7:=oy hx;simp only[ah] at h6;simp only[aE];simp (maxSteps:=9^9) (disch:=(first|omega|(simp;done)|(simp;omega))) [fp.l0,aa,setAt,bL,NU,hi,h6,e5,ah])
  (fun s x=>by
   obtain⟨v,x⟩:=x;simp only[aE];simp (maxSteps:=9^9) [fp.l0,NU,OL]) (so b) hp
 have q1:texts cZ [b.gid]=cZ b.gid:=by simp[texts]
 have q3:texts cZ [b.time,b.df,b.next,(b.ae.length:Int)]=cZ b.time++(cZ b.df++(cZ b.next++gE b.ae.length)):=by simp[texts,cZ]
 have q4:texts cZ [(b.gone.length:Int)]=gE b.gone.length:=by simp[texts,cZ]
 rw[q1] at h1;rw[q3] at h3;rw[q4] at h4;simp only[ints,az,bq,bF,fK] at h1 h2 h3 h4;simp[NU,OL] at hr;have e1:=bL (cZ b.gid) (gE b.name.length++b.name) (by simp;omega);have e2:=bL (cZ b.gid++(gE b.name.length++b.name)) (cZ b.time++(cZ b.df++(cZ b.next++gE b.ae.length))) (by simp;omega);have e3:so b=(cZ b.gid++(gE b.name.length++b.name))++(cZ b.time++(cZ b.df++(cZ b.next++gE b.ae.length))):=by simp[so]
 rw[←e3] at e2;have e4:=bL (so b++texts mA b.ae) (gE b.gone.length) (by simp;omega);have e5:=bL (so b++texts mA b.ae++gE b.gone.length) (texts cZ b.gone) (by simp;omega);simp only[bN] at e1 e2 e4 e5;simp only[oX];generalize so b=p at*;generalize texts mA b.ae=q at*;generalize texts cZ b.gone=r at*;simp (maxSteps:=9^9) [ba,fp.m,fp.b,ab,hr,h1,h2,h3,h4,h5,e1,e2,e4,e5,aa]
def NV(b:bA)(i:Nat)(s:List UInt8)(x:Nat×Nat):St:={t:=[(1,.c (.ptr 1 x.1 0 0)),(4,.c (S s)),(5,.c (I i))],o:=[(1,⟨x.1,7,true,true,[af b]⟩)],n:=x.2}
def OM(b:bA)(s:List UInt8)(x:Nat×Nat):St:={t:=[(1,.c (.ptr 1 x.1 0 0)),(4,.c (S s)),(5,.c (I b.ae.length)),(46,.c (.bool false))],o:=[(1,⟨x.1,7,true,true,[af b]⟩)],n:=x.2}
def NW(b:bA)(i:Nat)(s:List UInt8)(x:Nat×Nat):St:={t:=[(1,.c (.ptr 1 x.1 0 0)),(4,.c (S s)),(8,.c (I i))],o:=[(1,⟨x.1,7,true,true,[af b]⟩)],n:=x.2}
def OP(b:bA)(s:List UInt8)(x:Nat×Nat):St:={t:=[(1,.c (.ptr 1 x.1 0 0)),(4,.c (S s)),(8,.c (I b.gone.length)),(71,.c (.bool false))],o:=[(1,⟨x.1,7,true,true,[af b]⟩)],n:=x.2}
theorem dv.al(h:dv.k M)(b:bA)(hml:b.ae.length≤1048576)(hgl:b.gone.length≤4611686018427387904)(hnl:b.name.length≤4611686018427387904)(hw:∀m∈b.ae,m.flags.length≤1048576):
  run M 34 [.a (af b)] []=some (.lN [.c (S (if fE b=true then oX b else [])),.c (.bool (fE b))],[]):=by
 obtain⟨h0,ko,kv,km⟩:=h;have h1:=bE.al ko b hml hgl hnl hw;refine aA (b:=dv.m) h0 ⟨b.ae.length+b.gone.length+1, ?_⟩;simp only[af] at h1;cases c:fE b
 ·rw[c] at h1;simp (maxSteps:=9^9) [ba,dv.m,dv.b,ab,h1]
 rw[c] at h1;obtain⟨v1,v2,v3,v4,v5,v6,v7,v8,v9⟩:=jR c;have g1:=bH.int kv b.gid v1.1 (by have:=v1.2;omega);have g2:=bH.al kv b.name.length (by omega);have g3:=bH.int kv b.time v3.1 (by have:=v3.2;omega);have g4:=bH.int kv b.df v4.1 (by have:=v4.2;omega);have g5:=bH.int kv b.next v5.1 (by have:=v5.2;omega);have g6:=bH.al kv b.ae.length (by omega);have g7:=bH.al kv b.gone.length (by omega);have l1:=cz v1;have l3:=cz v3;have l4:=cz v4;have l5:=cz v5;have l6:=jc (n:=b.name.length) (by omega);have l7:=jc (n:=b.ae.length) (by omega);have l8:=jc (n:=b.gone.length) (by omega);have l9:=jJ cZ b.gone 10 fun n hn=>cz (v8 n hn)
 have l10:=jJ mA b.ae 1000 fun m hm=>oy (v9 m hm)
 have hp:=yu c;obtain⟨g,hr⟩:=nu (f:=ct (run M) (b.ae.length+b.gone.length+1) dv.l0) b.ae mA 1000 200 (fun m hm=>oy (v9 m hm)) (NV b) 0 (OM b)
  (fun i hi s x hs=>by
   obtain⟨v,x⟩:=x;have e5:=cA (i:=i) (by omega);have hx:=v9 _ (aq hi);have h6:=eQ.al km b.ae[i] (by have:=(me hx).2.2.1;omega);rw[if_pos hx,hx] at h6;have h7:=oy hx;simp only[ah] at h6;simp only[aE];have e6:=bL s (mA b.ae[i]) (by omega);simp (maxSteps:=9^9) [dv.l0,NV,hi,h6,e5,e6,ah])
  (fun s x=>by
   obtain⟨v,x⟩:=x;simp only[aE];simp (maxSteps:=9^9) [dv.l0,NV,OM]) (so b) hp
 obtain⟨g',hr'⟩:=nu (f:=ct (run M) (b.ae.length+b.gone.length+1) dv.l1) b.gone cZ 10 11000 (fun n hn=>cz (v8 n hn)) (NW b) 2 (OP b)
  (fun i hi s x hs=>by
   obtain⟨v,x⟩:=x;have e5:=cA (i:=i) (by omega);have hx:=v8 _ (aq hi);have h6:=bH.int kv b.gone[i] hx.1 (by have:=hx.2;omega);have h7:=cz hx;simp only[aE];have e6:=bL s (cZ b.gone[i]) (by omega);simp (maxSteps:=9^9) [dv.l1,NW,hi,h6,e5,e6])
  (fun s x=>by
   obtain⟨v,x⟩:=x;simp only[aE];simp (maxSteps:=9^9) [dv.l1,NW,OP]) (so b++texts mA b.ae++gE b.gone.length) (by simp;omega)
 have e1:=bL (cZ b.gid) (gE b.name.length) (by omega);have e2:=bL (cZ b.gid++gE b.name.length) b.name (by simp;omega);have e3:=bL (cZ b.gid++gE b.name.length++b.name) (cZ b.time) (by simp;omega);have e4:=bL (cZ b.gid++gE b.name.length++b.name++cZ b.time) (cZ b.df) (by simp;omega);have e5:=bL (cZ b.gid++gE b.name.length++b.name++cZ b.time++cZ b.df) (cZ b.next) (by simp;omega);have e6:=bL (cZ b.gid++gE b.name.length++b.name++cZ b.time++cZ b.df++cZ b.next) (gE b.ae.length) (by simp;omega);have e7:so b=cZ b.gid++gE b.name.length++b.name++cZ b.time++cZ b.df++cZ b.next++gE b.ae.length:=by simp[so]
 rw[←e7] at e6;have e8:=bL (so b++texts mA b.ae) (gE b.gone.length) (by simp;omega);simp only[bN] at e1 e2 e3 e4 e5 e6 e8;simp[NV,OM] at hr;simp[NW,OP] at hr';simp only[oX];have m1:b.ae.length+1≤b.ae.length+b.gone.length+1:=by omega
 have m2:b.gone.length+1≤b.ae.length+b.gone.length+1:=by omega
 have hr2:=fun x y=>gT (hr x y) m1
 have hr3:=fun x y=>gT (hr' x y) m2
 generalize so b=p at*;generalize texts mA b.ae=q at*;generalize texts cZ b.gone=r at*;simp (maxSteps:=9^9) [ba,dv.m,dv.b,ab,hr2,hr3,h1,g1,g2,g3,g4,g5,g6,g7,e1,e2,e3,e4,e5,e6,e8]
abbrev jh:=Int×Bool
abbrev nc(v:Nat)(l:List UInt8)(c:jh):Ob:=⟨v,3,true,true,[[S l,I c.1,.bool c.2]]⟩
abbrev qo:T:= .ptr 0 0 0 0
def cvar(l:List UInt8)(c:jh):Int×jh:=if c.2=true∨(fS l c.1).2.2=false then(0,c.1,true) else((fS l c.1).1,(fS l c.1).2.1,false)
def iH(l:List UInt8)(c:jh):List UInt8×jh:=if c.2=true∨(c_ l c.1).2.2=false then([],c.1,true) else((c_ l c.1).1,(c_ l c.1).2.1,false)
theorem bY.al(h:bY.k M)(l:List UInt8)(hl:l.length≤4611686018427387904)(c:jh):
  run M 152 [.c qo] [(0,nc 0 l c)]=some (.c (I (cvar l c).1),[(0,nc 0 l (cvar l c).2)]):=by
 obtain⟨a,b⟩:=c;have h1:=cy.al h.2 l hl a;refine aA (b:=bY.m) h.1 ⟨0, ?_⟩;unfold cvar;generalize fS l a=r at*;obtain⟨n,e,ok⟩:=r;cases b<;>cases ok<;>simp (maxSteps:=9^9) [ba,bY.m,bY.b,ab,setAt,h1]
theorem eN.al(h:eN.k M)(l:List UInt8)(hl:l.length≤4611686018427387904)(c:jh):
  run M 153 [.c qo] [(0,nc 0 l c)]=some (.c (S (iH l c).1),[(0,nc 0 l (iH l c).2)]):=by
 obtain⟨a,b⟩:=c;have h1:=dk.al h.2 l hl a;refine aA (b:=eN.m) h.1 ⟨0, ?_⟩;unfold iH;generalize c_ l a=r at*;obtain⟨n,e,ok⟩:=r;cases b<;>cases ok<;>simp (maxSteps:=9^9) [ba,eN.m,eN.b,ab,setAt,h1]
theorem cJ.al(h:cJ.k M)(l:List UInt8)(hl:l.length≤4611686018427387904)(c:jh):
  run M 139 [.c qo] [(0,nc 0 l c)]=some (.c (I (cvar l c).1),[(0,nc 0 l (cvar l c).2)]):=by
 obtain⟨a,b⟩:=c;have h1:=cv.al h.2 l hl a;refine aA (b:=cJ.m) h.1 ⟨0, ?_⟩;unfold cvar;generalize fS l a=r at*;obtain⟨n,e,ok⟩:=r;cases b<;>cases ok<;>simp (maxSteps:=9^9) [ba,cJ.m,cJ.b,ab,setAt,h1]
theorem gM.al(h:gM.k M)(l:List UInt8)(hl:l.length≤4611686018427387904)(c:jh):
  run M 140 [.c qo] [(0,nc 0 l c)]=some (.c (S (iH l c).1),[(0,nc 0 l (iH l c).2)]):=by
 obtain⟨a,b⟩:=c;have h1:=dX.al h.2 l hl a;refine aA (b:=gM.m) h.1 ⟨0, ?_⟩;unfold iH;generalize c_ l a=r at*;obtain⟨n,e,ok⟩:=r;cases b<;>cases ok<;>simp (maxSteps:=9^9) [ba,gM.m,gM.b,ab,setAt,h1]
def jX(l:List UInt8)(most:Int)(c:jh):Int×jh:=
 if most<(cvar l c).1∨(cvar l c).2.2=true then(0,(cvar l c).2.1,true) else cvar l c
theorem ee.al(h:ee.k M)(l:List UInt8)(hl:l.length≤4611686018427387904)(most:Int)(c:jh):
  run M 169 [.c qo,.c (I most)] [(0,nc 0 l c)]=some (.c (I (jX l most c).1),[(0,nc 0 l (jX l most c).2)]):=by
 have h1:=bY.al h.2 l hl c;refine aA (b:=ee.m) h.1 ⟨0, ?_⟩;unfold jX;generalize cvar l c=r at*;obtain⟨n,e,b⟩:=r;by_cases c1:most<n
 ·simp (maxSteps:=9^9) [ba,ee.m,ee.b,ab,setAt,h1,c1]
 ·cases b<;>simp (maxSteps:=9^9) [ba,ee.m,ee.b,ab,h1,c1]
def l_(l:List UInt8)(c:jh):(Int×Int)×jh:=(((cvar l c).1,(cvar l (cvar l c).2).1),(cvar l (cvar l c).2).2)
theorem fG.al(h:fG.k M)(l:List UInt8)(hl:l.length≤4611686018427387904)(c:jh):
  run M 222 [.c qo] [(0,nc 0 l c)]=some (.a [I (l_ l c).1.1,I (l_ l c).1.2],[(0,nc 0 l (l_ l c).2)]):=by
 have h1:=bY.al h.2 l hl c;have h2:=bY.al h.2 l hl (cvar l c).2;refine aA (b:=fG.m) h.1 ⟨0, ?_⟩;simp (maxSteps:=9^9) [ba,fG.m,fG.b,ab,setAt,h1,h2,l_]
def lx{α:Type}(p:jh→α×jh):Nat→jh→List α×jh
 |0,c=>([],c)
 |n+1,c=>((p c).1::(lx p n (p c).2).1,(lx p n (p c).2).2)
theorem lL{α:Type}(p:jh→α×jh):∀n c,(lx p n c).1.length=n
 |0,c=>rfl
 |n+1,c=>by simp[lx,lL p n]
theorem rS{α β γ:Type}(n:Nat)(p:jh→α×jh){f:St→Option (Out×St)}(S:Nat→List α→jh→β→St)(e:Nat)(E:List α→jh→γ→St)
  (h1:∀i,i<n→∀acc c x,acc.length=i→∃y,f (S i acc c x)=some (.normal,S (i+1) (acc++[(p c).1]) (p c).2 y))
  (h3:∀acc c x,acc.length=n→∃y,f (S n acc c x)=some (.exit e,E acc c y)) (c:jh):
  ∃g:β→γ,∀x,eZ f (n+1) (S 0 [] c x)=some (.exit e,E (lx p n c).1 (lx p n c).2 (g x)):=by
 have:=jS (f:=f) (fun s:Nat×List α×jh=>S s.1 s.2.1 s.2.2) (fun s=>s.1≤n∧s.2.1.length=s.1) (fun s=>n-s.1) (fun s=>(s.2.1++(lx p (n-s.1) s.2.2).1,(lx p (n-s.1) s.2.2).2)) (fun q m=>(.exit e,E q.1 q.2 m)) ?_ (n+1) (0,[],c) ⟨Nat.zero_le _,rfl⟩ (by simp)
 ·simpa using this
 rintro ⟨i,acc,c⟩ x ⟨hi,ha⟩;simp only at hi ha;by_cases hlt:i<n
 ·left;obtain⟨y,hy⟩:=h1 i hlt acc c x ha;refine⟨(i+1,acc++[(p c).1],(p c).2),y,hy,⟨hlt,by simp[ha]⟩,by simp only;omega, ?_⟩;simp only;rw[show n-i=(n-(i+1))+1 by omega];simp[lx]
 ·have:i=n:=by omega
  subst this;right;obtain⟨y,hy⟩:=h3 acc c x ha;exact⟨y,by simp[hy,lx],by simp⟩
def od(l:List UInt8)(most:Int)(c:jh):List Int×jh:=lx (cvar l) (jX l most c).1.toNat (jX l most c).2
theorem pc(l:List UInt8)(c:jh):0≤(cvar l c).1∧(cvar l c).1≤1000000000:=by
 have:=(pz l c.1).1;unfold cvar;split<;>simp<;>omega
theorem qq(l:List UInt8)(most:Int)(c:jh):0≤(jX l most c).1∧(jX l most c).1≤1000000000∧(0≤most→(jX l most c).1≤most):=by
 have:=pc l c;unfold jX;split
 ·simp
 ·rename_i h;rw[not_or] at h;omega
def Nz(l:List UInt8)(n:Nat)(i:Nat)(acc:List Int)(c:jh)(x:Nat×Nat):St:={t:=[(0,.c qo),(5,.c (.row 8 x.1 0 i)),(12,.c (I n)),(13,.c (I i))],o:=[(0,nc 0 l c),(8,⟨x.1,1,true,false,az acc⟩)],n:=x.2}
def On(l:List UInt8)(n:Nat)(acc:List Int)(c:jh)(x:Nat×Nat):St:={t:=[(0,.c qo),(5,.c (.row 8 x.1 0 n)),(12,.c (I n)),(13,.c (I n)),(14,.c (.bool false))],o:=[(0,nc 0 l c),(8,⟨x.1,1,true,false,az acc⟩)],n:=x.2}
theorem dE.al(h:dE.k M)(l:List UInt8)(hl:l.length≤4611686018427387904)(most:Int)(c:jh):
  run M 170 [.c qo,.c (I most)] [(0,nc 0 l c)]=some (.c (.sl true 1 (az (od l most c).1)),[(0,nc 0 l (od l most c).2)]):=by
 obtain⟨h0,k1,k2⟩:=h;have h1:=ee.al k2 l hl most c;have hn:=qq l most c;unfold od;generalize jX l most c=q at*;obtain⟨n,c1⟩:=q;simp only at hn ⊢;obtain⟨n,rfl⟩:=h_ hn.1;simp only[fy];refine aA (b:=dE.m) h0 ⟨n+1, ?_⟩;obtain⟨g,hr⟩:=rS (f:=ct (run M) (n+1) dE.l0) n (cvar l) (Nz l n) 0 (On l n)
  (fun i hi acc c x ha=>by
   obtain⟨v,x⟩:=x;have h2:=bY.al k1 l hl c;have e5:=cA (i:=i) (by omega);have e6:i+1≤4294967296:=by omega
   have hii:(i:Int)<n:=by omega
   simp only[aE];simp (maxSteps:=9^9) [dE.l0,Nz,hii,h2,e5,e6,ha,az,aa])
  (fun acc c x ha=>by
   obtain⟨v,x⟩:=x;simp only[aE];simp (maxSteps:=9^9) [dE.l0,Nz,On]) c1
 have hlen:=lL (cvar l) n c1;simp[Nz,On,az] at hr;simp (maxSteps:=9^9) [ba,dE.m,dE.b,ab,h1,hr,hlen,az,aa]
theorem wrap_one:IntKind.i64.wrap 1=1:=wrap_i64 (by omega) (by omega)
def sU(l:List UInt8)(c:jh):nE×jh:=(⟨(cvar l c).1,(l_ l (cvar l c).2).1.1,(l_ l (cvar l c).2).1.2⟩,(l_ l (cvar l c).2).2)
def jO(l:List UInt8)(c:jh):bp×jh:=
 let g:=cvar l c
 let u:=cvar l g.2
 let f:=lx (sU l) 3 u.2
 let t:=iH l f.2
 (⟨g.1,u.1,f.1,t.1⟩,t.2)
abbrev tf:List T:=[I 0,.str ⟨#[]⟩,I 0,I 0,I 0,.aK 4,.aK 1]
abbrev s9:List T:=[I 0,I 0,.aK 3,.str ⟨#[]⟩]
structure kU where
 a:Nat
 b:Nat
 c:Nat
 d:Nat
theorem kU.ex{p:kU→Prop}:(∃x,p x)↔∃a b c d,p ⟨a,b,c,d⟩:=⟨fun⟨⟨a,b,c,d⟩,h⟩=>⟨a,b,c,d,h⟩,fun⟨a,b,c,d,h⟩=>⟨⟨a,b,c,d⟩,h⟩⟩
def MI(l:List UInt8)(g u:Int)(i:Nat)(acc:List nE)(c:jh)(x:kU):St:={t:=[(0,.c qo),(2,.c (.ptr 2 x.a 0 0)),(3,.c (.ptr 3 x.b 0 0)),(11,.c (I i))],o:=[(0,nc 0 l c),(2,⟨x.a,4,true,true,[s9]⟩),(3,⟨x.b,4,true,true,[[I g,I u,if i=0 then .aK 3 else .row 23 x.c 0 i,.str ⟨#[]⟩]]⟩)]++if i=0 then [] else [(23,⟨x.c,3,true,false,acc.map aS⟩)],n:=x.d}
def Ot(l:List UInt8)(g u:Int)(acc:List nE)(c:jh)(x:kU):St:={t:=[(0,.c qo),(2,.c (.ptr 2 x.a 0 0)),(3,.c (.ptr 3 x.b 0 0)),(11,.c (I 3)),(12,.c (.bool false))],o:=[(0,nc 0 l c),(2,⟨x.a,4,true,true,[s9]⟩),(3,⟨x.b,4,true,true,[[I g,I u,.row 23 x.c 0 3,.str ⟨#[]⟩]]⟩),(23,⟨x.c,3,true,false,acc.map aS⟩)],n:=x.d}
theorem eh.al(h:eh.k M)(l:List UInt8)(hl:l.length≤4611686018427387904)(c:jh):
  run M 223 [.c qo] [(0,nc 0 l c)]=some (.a (jg (jO l c).1),[(0,nc 0 l (jO l c).2)]):=by
 obtain⟨h0,k1,k2,k3⟩:=h;have h1:=bY.al k1 l hl c;have h2:=bY.al k1 l hl (cvar l c).2;refine aA (b:=eh.m) h0 ⟨4, ?_⟩;obtain⟨g,hr⟩:=rS (f:=ct (run M) 4 eh.l0) 3 (sU l) (MI l (cvar l c).1 (cvar l (cvar l c).2).1) 0 (Ot l (cvar l c).1 (cvar l (cvar l c).2).1)
  (fun i hi acc c x ha=>by
   obtain⟨v,w,z,x⟩:=x;have h2:=bY.al k1 l hl c;have h3:=fG.al k3 l hl (cvar l c).2;have e5:=cA (i:=i) (by omega);have hii:(i:Int)<3:=by omega
   simp only[kU.ex];cases i with
   |zero=>
    have:acc=[]:=aZ ha;subst this;simp (maxSteps:=9^9) [eh.l0,setAt,MI,h2,h3,wrap_one,aS,sU]
   |succ i=>
    have e6:i+1+1≤4294967296:=by omega
    have e7:(i:Int)+1<3:=by omega
    have e5:IntKind.i64.wrap ((i:Int)+1+1)=(i:Int)+1+1:=wrap_i64 (by omega) (by omega);simp (maxSteps:=9^9) [eh.l0,setAt,MI,e7,h2,h3,e5,e6,ha,aS,sU,aa])
  (fun acc c x ha=>by
   obtain⟨v,w,z,x⟩:=x;simp only[kU.ex];simp (maxSteps:=9^9) [eh.l0,MI,Ot]) (cvar l (cvar l c).2).2
 have hlen:=lL (sU l) 3 (cvar l (cvar l c).2).2;have h4:=eN.al k2 l hl (lx (sU l) 3 (cvar l (cvar l c).2).2).2;simp only[jO];generalize lx (sU l) 3 (cvar l (cvar l c).2).2=q at*
 replace hr:=fun a b d=>hr ⟨a,b,0,d⟩
 simp[MI,Ot] at hr;simp (maxSteps:=9^9) [ba,eh.m,eh.b,ab,setAt,h1,h2,h4,hr,hlen,aa]
def lp(l:List UInt8)(c:jh):bA×jh:=
 let g:=cvar l c
 let nm:=iH l g.2
 let st:=l_ l nm.2
 let nx:=cvar l st.2
 (⟨g.1,nm.1,st.1.1,st.1.2,nx.1,[],[]⟩,nx.2)
def lq(l:List UInt8)(c:jh):bA×jh:=
 let h:=lp l c
 let k:=jX l 10 h.2
 let ms:=lx (jO l) k.1.toNat k.2
 let go:=od l 40 ms.2
 ({h.1 with ae:=ms.1,gone:=go.1},go.2)
def Kt(b:bA)(i:Nat)(acc:List bp)(x:kU):List (Nat×Ob):=[(2,⟨x.a,7,true,true,[tf]⟩),(3,⟨x.b,7,true,true,[[I b.gid,S b.name,I b.time,I b.df,I b.next,if i=0 then .aK 4 else .row 29 x.c 0 i,.aK 1]]⟩)]++if i=0 then [] else [(29,⟨x.c,4,true,false,acc.map ah⟩)]
def C3(l:List UInt8)(b:bA)(n i:Nat)(acc:List bp)(c:jh)(x:kU):St:={t:=[(0,.c qo),(2,.c (.ptr 2 x.a 0 0)),(3,.c (.ptr 3 x.b 0 0)),(20,.c (I n)),(21,.c (I i))],o:=(0,nc 0 l c)::Kt b i acc x,n:=x.d}
def Hh(l:List UInt8)(b:bA)(n:Nat)(acc:List bp)(c:jh)(x:kU):St:={t:=[(0,.c qo),(2,.c (.ptr 2 x.a 0 0)),(3,.c (.ptr 3 x.b 0 0)),(20,.c (I n)),(21,.c (I n)),(22,.c (.bool false))],o:=(0,nc 0 l c)::Kt b n acc x,n:=x.d}
theorem dF.al(h:dF.k M)(l:List UInt8)(hl:l.length≤4611686018427387904)(c:jh):
  run M 143 [.c qo] [(0,nc 0 l c)]=some (.a (cm (lq l c).1),[(0,nc 0 l (lq l c).2)]):=by
 obtain⟨h0,k1,k2,k3,k4,k5,k6⟩:=h;have h1:=bY.al k1 l hl c;have h2:=eN.al k2 l hl (cvar l c).2;have h3:=fG.al k5 l hl (iH l (cvar l c).2).2;have h4:=bY.al k1 l hl (l_ l (iH l (cvar l c).2).2).2;simp only[lq];have e0:lp l c=(⟨(cvar l c).1,(iH l (cvar l c).2).1,(l_ l (iH l (cvar l c).2).2).1.1,(l_ l (iH l (cvar l c).2).2).1.2,(cvar l (l_ l (iH l (cvar l c).2).2).2).1,[],[]⟩,(cvar l (l_ l (iH l (cvar l c).2).2).2).2):=rfl;rw[e0];generalize cvar l c=q1 at*;generalize iH l q1.2=q2 at*;generalize l_ l q2.2=q3 at*;generalize cvar l q3.2=q4 at*;have h5:=ee.al k3 l hl 10 q4.2;have hn:=qq l 10 q4.2;simp only;generalize jX l 10 q4.2=q5 at*;obtain⟨n,c1⟩:=q5;simp only at hn ⊢;obtain⟨n,rfl⟩:=h_ hn.1;simp only[fy];refine aA (b:=dF.m) h0 ⟨n+1, ?_⟩;obtain⟨g,hr⟩:=rS (f:=ct (run M) (n+1) dF.l0) n (jO l) (C3 l ⟨q1.1,q2.1,q3.1.1,q3.1.2,q4.1,[],[]⟩ n) 0 (Hh l ⟨q1.1,q2.1,q3.1.1,q3.1.2,q4.1,[],[]⟩ n)
  (fun i hi acc c x ha=>by
   obtain⟨v,w,z,x⟩:=x;have h2:=eh.al k6 l hl c;simp only[kU.ex];cases i with
   |zero=>
    have:acc=[]:=aZ ha;subst this;simp (maxSteps:=9^9) [dF.l0,setAt,C3,Kt,hi,h2,wrap_one,jg,ah]
   |succ i=>
    have e5:IntKind.i64.wrap ((i:Int)+1+1)=(i:Int)+1+1:=wrap_i64 (by omega) (by omega);have e6:i+1+1≤4294967296:=by omega
    have e7:(i:Int)+1<n:=by omega
    simp (maxSteps:=9^9) [dF.l0,setAt,C3,Kt,e7,h2,e5,e6,ha,jg,ah,aa])
  (fun acc c x ha=>by
   obtain⟨v,w,z,x⟩:=x;simp only[kU.ex];by_cases hz:n=0
   ·subst hz;simp (maxSteps:=9^9) [dF.l0,C3,Hh,Kt]
   ·simp (maxSteps:=9^9) [dF.l0,C3,Hh,Kt,hz]) c1
 have hlen:=lL (jO l) n c1;have h6:=dE.al k4 l hl 40 (lx (jO l) n c1).2;generalize lx (jO l) n c1=q at*;generalize od l 40 q.2=q6 at*
 replace hr:=fun a b d=>hr ⟨a,b,0,d⟩
 by_cases hz:n=0
 ·subst hz;have hq:q.1=[]:=aZ hlen;simp[C3,Hh,Kt] at hr;simp (maxSteps:=9^9) [ba,dF.m,dF.b,ab,setAt,h1,h2,h3,h4,h5,h6,hr,hq,aa]
 ·simp[C3,Hh,Kt,hz] at hr;simp (maxSteps:=9^9) [ba,dF.m,dF.b,ab,setAt,h1,h2,h3,h4,h5,h6,hr,hlen,aa]
def nM(l:List UInt8)(c c':jh)(t:List UInt8):Prop:=c'.2=false→c.2=false∧c.1≤c'.1∧(t=[]∧c'.1=c.1∨0≤c.1∧c'.1≤l.length∧(l.take c'.1.toNat).drop c.1.toNat=t)
theorem nM.refl(l:List UInt8)(c:jh):nM l c c []:=fun h=>⟨h,Int.le_refl _,.inl ⟨rfl,rfl⟩⟩
theorem wV(l:List UInt8){m e f:Nat}(h:m≤e)(k:e≤f):(l.take e).drop m++(l.take f).drop e=(l.take f).drop m:=by
 have h1:(l.take f).take e=l.take e:=by rw[List.take_take,Nat.min_eq_left k]
 rw[←h1];generalize l.take f=x;rw[←cr e (x.drop m)];by_cases he:e≤x.length
 ·have:(x.drop m)=(x.take e).drop m++x.drop e:=by
   conv=>lhs;rw[←cr e x]
   rw[List.drop_append_of_le_length (by simp;omega)]
  rw[cr,this]
 ·rw[cr,aa (by omega),eO (by omega:x.length≤e),dp]
theorem nM.trans{l:List UInt8}{c d e:jh}{t u:List UInt8}(h:nM l c d t)(k:nM l d e u):nM l c e (t++u):=by
 intro he;obtain⟨hd,k1,k2⟩:=k he;obtain⟨hc,h1,h2⟩:=h hd;refine⟨hc,by omega, ?_⟩;rcases h2 with⟨rfl,h2⟩|⟨h2,h3,h4⟩
 ·rcases k2 with⟨rfl,k2⟩|⟨k2,k3,k4⟩
  ·exact .inl ⟨rfl,by omega⟩
  ·right;rw[h2] at k4 k2;exact⟨k2,k3,by simpa using k4⟩
 ·right;rcases k2 with⟨rfl,k2⟩|⟨k2,k3,k4⟩
  ·rw[k2];exact⟨h2,h3,by simpa using h4⟩
  ·refine⟨h2,k3, ?_⟩;rw[←h4,←k4,wV l (by omega) (by omega)]
theorem nM.bad{l:List UInt8}{c d:jh}{t:List UInt8}(h:nM l c d t)(hc:c.2=true):d.2=true:=by
 cases hd:d.2 with
 |true=>rfl
 |false=>rw[(h hd).1] at hc;cases hc
theorem z6(l:List UInt8)(a:Int)(h:(fS l a).2.2=true):0≤a∧(l.take (fS l a).2.1).drop a.toNat=gE (fS l a).1:=by
 obtain⟨h1,h2,h3⟩:=pz l a;have h4:=h3 h;refine⟨h4.1, ?_⟩;unfold fS at h ⊢;split at h
 ·rename_i hr;rw[if_pos hr];cases hg:mS l a.toNat 5 0 0 with
  |none=>rw[hg] at h;cases h
  |some r=>
   rw[hg] at h;simp only[jz] at h ⊢;obtain⟨q1,q2,q3⟩:=uS l a.toNat 5 0 0 r hg h;rw[q3,List.drop_take]
 ·cases h
theorem kR(l:List UInt8)(c:jh):nM l c (cvar l c).2 (cZ (cvar l c).1):=by
 intro h;unfold cvar at h ⊢;split at h
 ·cases h
 ·rename_i hn;rw[if_neg hn];rw[not_or] at hn;have h1:(fS l c.1).2.2=true:=by simpa using hn.2
  obtain⟨h2,h3,h4⟩:=pz l c.1;have h5:=h4 h1;obtain⟨h6,h7⟩:=z6 l c.1 h1;refine⟨by simpa using hn.1,by simp only;omega,.inr ⟨h6,by simp only;omega, ?_⟩⟩;simp only[cZ,fy];exact h7
theorem uC(l:List UInt8)(c:jh):nM l c (iH l c).2 (fK (iH l c).1):=by
 intro h;unfold iH at h ⊢;split at h
 ·cases h
 ·rename_i hn;rw[if_neg hn];rw[not_or] at hn;have h1:(c_ l c.1).2.2=true:=by simpa using hn.2
  obtain⟨m,h2,h3,h4,h5,h6⟩:=o8 l c.1 h1;refine⟨by simpa using hn.1,by simp only;omega,.inr ⟨by omega,by simp only;omega, ?_⟩⟩;have h7:c.1.toNat=m:=by omega
  simp only[h7,fy];exact h5
theorem uB(l:List UInt8)(c:jh):nM l c (l_ l c).2 (cZ (l_ l c).1.1++cZ (l_ l c).1.2):=(kR l c).trans (kR l _)
theorem sg(l:List UInt8)(most:Int)(c:jh):nM l c (jX l most c).2 (cZ (jX l most c).1):=by
 intro h;unfold jX at h ⊢;split at h
 ·cases h
 ·rename_i hn;rw[if_neg hn];exact kR l c h
theorem pK{α:Type}{l:List UInt8}{p:jh→α×jh}{t:α→List UInt8}(hp:∀c,nM l c (p c).2 (t (p c).1)):∀n c,nM l c (lx p n c).2 (texts t (lx p n c).1)
 |0,c=>nM.refl l c
 |n+1,c=>by
  have:=(hp c).trans (pK hp n (p c).2);simpa [lx,texts] using this
theorem se(l:List UInt8)(most:Int)(c:jh):nM l c (od l most c).2 (gE (od l most c).1.length++texts cZ (od l most c).1):=by
 have h:=(sg l most c).trans (pK (kR l) (jX l most c).1.toNat (jX l most c).2);have hn:=qq l most c;unfold od;rw[lL];exact h
theorem CY(l:List UInt8)(c:jh):nM l c (sU l c).2 (sS (sU l c).1):=by
 have:=(kR l c).trans (uB l (cvar l c).2);simpa [sU,sS,texts] using this
theorem wh(l:List UInt8)(c:jh):nM l c (jO l c).2 (mA (jO l c).1):=by
 have h1:=((kR l c).trans (kR l (cvar l c).2)).trans (pK (CY l) 3 (cvar l (cvar l c).2).2);have:=h1.trans (uC l _);simp only[jO,mA];simpa [texts] using this
theorem BE(l:List UInt8)(c:jh):nM l c (lp l c).2 (cZ (lp l c).1.gid++(fK (lp l c).1.name++(cZ (lp l c).1.time++(cZ (lp l c).1.df++cZ (lp l c).1.next)))):=by
 have h1:=(((kR l c).trans (uC l _)).trans (uB l _)).trans (kR l (l_ l (iH l (cvar l c).2).2).2);simpa [lp] using h1
theorem yp(l:List UInt8)(c:jh):nM l c (lq l c).2 (oX (lq l c).1):=by
 have h1:=((BE l c).trans (sg l 10 _)).trans ((pK (wh l) (jX l 10 (lp l c).2).1.toNat (jX l 10 (lp l c).2).2).trans (se l 40 _));have hn:=lL (jO l) (jX l 10 (lp l c).2).1.toNat (jX l 10 (lp l c).2).2;simp only[oX,so,lq,hn];simpa [fK,cZ] using h1
def nD{α:Type}(p:jh→α×jh):Nat→jh→List α×jh
 |0,c=>([],c)
 |n+1,c=>if c.2=true then([],c) else((p c).1::(nD p n (p c).2).1,(nD p n (p c).2).2)
theorem lM{α:Type}{p:jh→α×jh}(hp:∀c,c.2=true→(p c).2.2=true):∀n c,c.2=true→(lx p n c).2.2=true
 |0,c,h=>h
 |n+1,c,h=>lM hp n _ (hp c h)
theorem vm{α:Type}{p:jh→α×jh}(hp:∀c,c.2=true→(p c).2.2=true):∀n c,nD p n c=lx p n c∨(nD p n c).2.2=true∧(lx p n c).2.2=true
 |0,c=> .inl rfl
 |n+1,c=>by
  simp only[nD];split
  ·rename_i h;exact .inr ⟨h,lM hp (n+1) c h⟩
  ·rcases vm hp n (p c).2 with h|h
   ·left;rw[h];rfl
   ·exact .inr h
theorem sK{α:Type}{p:jh→α×jh}(n:Nat)(c:jh)(h:c.2=true):nD p n c=([],c):=by
 cases n with
 |zero=>rfl
 |succ n=>simp[nD,h]
theorem Ff{α:Type}{p:jh→α×jh}(hp:∀c,c.2=true→(p c).2.2=true):∀n c,(nD p n c).2.2=false→(nD p n c).1.length=n:=by
 intro n c h;rcases vm hp n c with q|q
 ·rw[q,lL]
 ·rw[q.1] at h;cases h
theorem Ep{α β γ:Type}(n:Nat)(p:jh→α×jh){f:St→Option (Out×St)}(S:Nat→List α→jh→β→St)(e:Nat)(E:List α→jh→γ→St)
  (h1:∀i,i<n→∀acc c x,acc.length=i→c.2=false→∃y,f (S i acc c x)=some (.normal,S (i+1) (acc++[(p c).1]) (p c).2 y))
  (h2:∀i,i<n→∀acc c x,acc.length=i→c.2=true→∃y,f (S i acc c x)=some (.exit e,E acc c y))
  (h3:∀acc c x,acc.length=n→∃y,f (S n acc c x)=some (.exit e,E acc c y)) (c:jh):
  ∃g:β→γ,∀x,eZ f (n+1) (S 0 [] c x)=some (.exit e,E (nD p n c).1 (nD p n c).2 (g x)):=by
 have:=jS (f:=f) (fun s:Nat×List α×jh=>S s.1 s.2.1 s.2.2) (fun s=>s.1≤n∧s.2.1.length=s.1) (fun s=>n-s.1) (fun s=>(s.2.1++(nD p (n-s.1) s.2.2).1,(nD p (n-s.1) s.2.2).2)) (fun q m=>(.exit e,E q.1 q.2 m)) ?_ (n+1) (0,[],c) ⟨Nat.zero_le _,rfl⟩ (by simp)
 ·simpa using this
 rintro ⟨i,acc,c⟩ x ⟨hi,ha⟩;simp only at hi ha;by_cases hlt:i<n
 ·cases hc:c.2
  ·left;obtain⟨y,hy⟩:=h1 i hlt acc c x ha hc;refine⟨(i+1,acc++[(p c).1],(p c).2),y,hy,⟨hlt,by simp[ha]⟩,by simp only;omega, ?_⟩;simp only;rw[show n-i=(n-(i+1))+1 by omega];simp[nD,hc]
  ·right;obtain⟨y,hy⟩:=h2 i hlt acc c x ha hc;exact⟨y,by simp[hy,sK _ _ hc],by simp⟩
 ·have:i=n:=by omega
  subst this;right;obtain⟨y,hy⟩:=h3 acc c x ha;exact⟨y,by simp[hy,nD],by simp⟩
def mD(l:List UInt8)(most:Nat)(c:jh):List Int×jh:=nD (cvar l) (Min.min (cvar l c).1.toNat (most+1)) (cvar l c).2
def Lo(l:List UInt8)(most n:Nat)(i:Nat)(acc:List Int)(c:jh)(x:Nat×Nat):St:={t:=[(0,.c qo),(1,.c (I most)),(5,.c (I n)),(6,.c (.row 10 x.1 0 i)),(7,.c (I i))],o:=[(0,nc 0 l c),(10,⟨x.1,1,true,false,az acc⟩)],n:=x.2}
def Mi(l:List UInt8)(most n:Nat)(acc:List Int)(c:jh)(x:Nat×Nat):St:={t:=[(0,.c qo),(1,.c (I most)),(5,.c (I n)),(6,.c (.row 10 x.1 0 acc.length)),(7,.c (I acc.length)),(25,.c (.bool false))],o:=[(0,nc 0 l c),(10,⟨x.1,1,true,false,az acc⟩)],n:=x.2}
theorem eE.al(h:eE.k M)(l:List UInt8)(hl:l.length≤4611686018427387904)(most:Nat)(hm:most≤1000)(c:jh):
  run M 142 [.c qo,.c (I most)] [(0,nc 0 l c)]=some (.c (.sl true 1 (az (mD l most c).1)),[(0,nc 0 l (mD l most c).2)]):=by
 obtain⟨h0,k1⟩:=h;have h1:=cJ.al k1 l hl c;have hn:=pc l c;unfold mD;generalize cvar l c=q at*;obtain⟨n,c1⟩:=q;simp only at hn ⊢;obtain⟨n,rfl⟩:=h_ hn.1;simp only[fy];generalize hd:Min.min n (most+1)=d;have hd1:d≤n:=by omega
 have hd2:d≤most+1:=by omega
 have hd3:d=n∨d=most+1:=by omega
 refine aA (b:=eE.m) h0 ⟨d+1, ?_⟩;obtain⟨g,hr⟩:=Ep (f:=ct (run M) (d+1) eE.l0) d (cvar l) (Lo l most n) 0 (Mi l most n)
  (fun i hi acc c x ha hc=>by
   obtain⟨v,x⟩:=x;have h2:=cJ.al k1 l hl c;have e5:=cA (i:=i) (by omega);have e6:i+1≤4294967296:=by omega
   have h3:(i:Int)<n:=by omega
   have h4:(i:Int)≤most:=by omega
   have h4':i≤most:=by omega
   have h3':i<n:=by omega
   obtain⟨ca,cb⟩:=c;simp only at hc;subst hc;simp only[aE];simp (maxSteps:=9^9) [eE.l0,Lo,h3,h4,h2,e5,e6,ha,az,aa])
  (fun i hi acc c x ha hc=>by
   obtain⟨v,x⟩:=x;have h3:i<n:=by omega
   have h4:i≤most:=by omega
   obtain⟨ca,cb⟩:=c;simp only at hc;subst hc;simp only[aE];simp (maxSteps:=9^9) [eE.l0,Lo,Mi,h3,h4,ha])
  (fun acc c x ha=>by
   obtain⟨v,x⟩:=x;simp only[aE];rcases hd3 with h3|h3
   ·have h4:¬d<n:=by omega
    simp (maxSteps:=9^9) [eE.l0,Lo,Mi,h4,ha]
   ·have h4:¬d≤most:=by omega
    by_cases h5:d<n
    ·simp (maxSteps:=9^9) [eE.l0,Lo,Mi,h4,h5,ha]
    ·simp (maxSteps:=9^9) [eE.l0,Lo,Mi,h5,ha]) c1
 have hlen:(nD (cvar l) d c1).1.length≤(nD (cvar l) d c1).1.length:=Nat.le_refl _;simp[Lo,Mi,az] at hr;simp (maxSteps:=9^9) [ba,eE.m,eE.b,ab,h1,hr,az,aa]
theorem cJ.at(h:cJ.k M)(l:List UInt8)(hl:l.length≤4611686018427387904)(a:Int)(b:Bool):
  run M 139 [.c qo] [(0,⟨0,3,true,true,[[S l,I a,.bool b]]⟩)]=some (.c (I (cvar l (a,b)).1),[(0,nc 0 l (cvar l (a,b)).2)]):=cJ.al h l hl (a,b)
theorem bY.at(h:bY.k M)(l:List UInt8)(hl:l.length≤4611686018427387904)(a:Int)(b:Bool):
  run M 152 [.c qo] [(0,⟨0,3,true,true,[[S l,I a,.bool b]]⟩)]=some (.c (I (cvar l (a,b)).1),[(0,nc 0 l (cvar l (a,b)).2)]):=bY.al h l hl (a,b)
def Bf:bp:=⟨0,0,[],[]⟩
def rT(l:List UInt8)(a:Int):bp×Int×Bool:=if(jO l (a,false)).2.2=false∧i_ (jO l (a,false)).1=true then((jO l (a,false)).1,(jO l (a,false)).2.1,true) else(Bf,0,false)
def MB(l:List UInt8)(g u:Int)(i:Nat)(acc:List nE)(c:jh)(x:kU):St:={t:=[(4,.c (.ptr 4 x.a 0 0)),(7,.c (.ptr 14 2000096 0 0)),(8,.c (.ptr 8 x.b 0 0)),(9,.c (I i))],o:=[(4,⟨x.a,4,true,true,[s9]⟩),(8,⟨x.b,4,true,true,[[I g,I u,if i=0 then .aK 3 else .row 40 x.c 0 i,.str ⟨#[]⟩]]⟩),(14,nc 2000096 l c)]++if i=0 then [] else [(40,⟨x.c,3,true,false,acc.map aS⟩)],n:=x.d}
def Oj(l:List UInt8)(g u:Int)(acc:List nE)(c:jh)(x:kU):St:={t:=[(4,.c (.ptr 4 x.a 0 0)),(7,.c (.ptr 14 2000096 0 0)),(8,.c (.ptr 8 x.b 0 0)),(9,.c (I 3)),(22,.c (.bool false))],o:=[(4,⟨x.a,4,true,true,[s9]⟩),(8,⟨x.b,4,true,true,[[I g,I u,.row 40 x.c 0 3,.str ⟨#[]⟩]]⟩),(14,nc 2000096 l c),(40,⟨x.c,3,true,false,acc.map aS⟩)],n:=x.d}
theorem dz.al(h:dz.k M)(l:List UInt8)(hl:l.length≤4611686018427387904)(a:Int):
  run M 141 [.c (S l),.c (I a)] []=some (.lN [.a (jg (rT l a).1),.c (I (rT l a).2.1),.c (.bool (rT l a).2.2)],[]):=by
 obtain⟨h0,k1,k2,k3⟩:=h;have h1:=cJ.at k1 l hl a false;have h2:=cJ.al k1 l hl (cvar l (a,false)).2;refine aA (b:=dz.m) h0 ⟨4, ?_⟩;obtain⟨g,hr⟩:=rS (f:=ct (run M) 4 dz.l0) 3 (sU l) (MB l (cvar l (a,false)).1 (cvar l (cvar l (a,false)).2).1) 0 (Oj l (cvar l (a,false)).1 (cvar l (cvar l (a,false)).2).1)
  (fun i hi acc c x ha=>by
   obtain⟨v,w,z,x⟩:=x;have h2:=cJ.al k1 l hl c;have h3:=cJ.al k1 l hl (cvar l c).2;have h4:=cJ.al k1 l hl (cvar l (cvar l c).2).2;simp only[kU.ex];cases i with
   |zero=>
    have:acc=[]:=aZ ha;subst this;simp (maxSteps:=9^9) [dz.l0,setAt,MB,h2,h3,h4,wrap_one,aS,sU,l_]
   |succ i=>
    have e5:IntKind.i64.wrap ((i:Int)+1+1)=(i:Int)+1+1:=wrap_i64 (by omega) (by omega);have e6:i+1+1≤4294967296:=by omega
    have e7:(i:Int)+1<3:=by omega
    simp (maxSteps:=9^9) [dz.l0,setAt,MB,e7,h2,h3,h4,e5,e6,ha,aS,sU,l_,aa])
  (fun acc c x ha=>by
   obtain⟨v,w,z,x⟩:=x;simp only[kU.ex];simp (maxSteps:=9^9) [dz.l0,MB,Oj]) (cvar l (cvar l (a,false)).2).2
 have hlen:=lL (sU l) 3 (cvar l (cvar l (a,false)).2).2;have h4:=gM.al k2 l hl (lx (sU l) 3 (cvar l (cvar l (a,false)).2).2).2;have h5:=d_.al k3 (jO l (a,false)).1 (by simp[jO,lL]);obtain⟨q,hq⟩:∃q,lx (sU l) 3 (cvar l (cvar l (a,false)).2).2=q:=⟨_,rfl⟩
 have e:jO l (a,false)=(⟨(cvar l (a,false)).1,(cvar l (cvar l (a,false)).2).1,q.1,(iH l q.2).1⟩,(iH l q.2).2):=by rw[←hq];rfl
 rw[hq] at hr hlen h4;rw[e] at h5;unfold rT;rw[e]
 replace hr:=fun a b d=>hr ⟨a,b,0,d⟩
 simp[MB,Oj] at hr;simp only[ah] at h5;generalize iH l q.2=r at*;cases c1:r.2.2
 ·generalize i_ _=ok at*;cases ok<;>simp (maxSteps:=9^9) [ba,dz.m,dz.b,ab,setAt,h1,h2,h4,h5,hr,hlen,c1,Bf,aa]
 ·simp (maxSteps:=9^9) [ba,dz.m,dz.b,ab,setAt,h1,h2,h4,hr,c1,Bf,aa]
def qp(l:List UInt8):Nat→jh→Option (List bp×jh)
 |0,c=>some ([],c)
 |d+1,c=>if(jO l c).2.2=false∧i_ (jO l c).1=true then(qp l d (jO l c).2).map fun r=>((jO l c).1::r.1,r.2) else none
def yT:bA:=⟨0,[],0,0,0,[],[]⟩
def sA(l:List UInt8)(a:Int):bA×Int×Bool:=if(lq l (a,false)).2.2=false∧fE (lq l (a,false)).1=true then((lq l (a,false)).1,(lq l (a,false)).2.1,true) else(yT,0,false)
def A2(l:List UInt8)(c:jh):Option (bA×jh):=
 let h:=lp l c
 let k:=cvar l h.2
 (qp l (Min.min k.1.toNat 11) k.2).map fun ms=>({h.1 with ae:=ms.1,gone:=(mD l 40 ms.2).1},(mD l 40 ms.2).2)
theorem pv(l:List UInt8)(c:jh)(h:c.2=true):(jO l c).2.2=true:=(wh l c).bad h
theorem pt(l:List UInt8)(c:jh)(h:c.2=true):(cvar l c).2.2=true:=(kR l c).bad h
theorem vn{l:List UInt8}:∀{d:Nat} {c:jh} {r:List bp×jh},qp l d c=some r→lx (jO l) d c=r∧(∀m∈r.1,i_ m=true)∧(c.2=false→r.2.2=false)∧r.1.length=d
 |0,c,r,h=>by simp[qp] at h;subst h;simp[lx]
 |d+1,c,r,h=>by
  simp only[qp] at h;split at h
  ·rename_i hc;simp only[ao] at h;obtain⟨q,hq,rfl⟩:=h;obtain⟨h1,h2,h3,h4⟩:=vn hq;refine⟨by simp[lx,h1], ?_,fun _=>h3 hc.1,by simp[h4]⟩;intro m hm;rcases List.mem_cons.1 hm with rfl|hm
   ·exact hc.2
   ·exact h2 m hm
  ·cases h
theorem zC{l:List UInt8}:∀{d:Nat} {c:jh},qp l d c=none→(lx (jO l) d c).2.2=true∨∃m∈(lx (jO l) d c).1,i_ m=false
 |0,c,h=>by simp[qp] at h
 |d+1,c,h=>by
  simp only[qp] at h;split at h
  ·rename_i hc;simp only[Option.map_eq_none_iff] at h;rcases zC h with h1|⟨m,h1,h2⟩
   ·exact .inl h1
   ·exact .inr ⟨m,bo _ h1,h2⟩
  ·rename_i hc;cases h1:(jO l c).2.2
   ·right;refine⟨_,bf .., ?_⟩;cases h2:i_ (jO l c).1
    ·rfl
    ·exact(hc ⟨h1,h2⟩).elim
   ·left;exact lM (pv l) d _ h1
theorem vr{b:bA}(h:(10<b.ae.length∨40<b.gone.length)∨∃m∈b.ae,i_ m=false):fE b=false:=by
 cases hb:fE b
 ·rfl
 ·obtain⟨h1,h2,h3,h4,h5,h6,h7,h8,h9⟩:=jR hb;rcases h with (h|h)|⟨m,hm,h⟩
  ·omega
  ·omega
  ·rw[h9 m hm] at h;cases h
theorem mI(l:List UInt8)(most:Int)(c:jh)(h:c.2=true):(od l most c).2.2=true:=(se l most c).bad h
theorem yn(l:List UInt8)(most:Nat)(c:jh):((mD l most c).2.2=true∨most<(mD l most c).1.length)∧(od l most c).2.2=true∨mD l most c=od l most c:=by
 have hn:=pc l c;unfold mD od jX;by_cases h1:(cvar l c).2.2=true
 ·left;rw[if_pos (.inr h1)];simp only[Int.toNat_zero,lx,and_true];left;rw[sK _ _ h1];exact h1
 ·by_cases h2:(most:Int)<(cvar l c).1
  ·left;rw[if_pos (.inl h2)];simp only[Int.toNat_zero,lx,and_true];rw[show Min.min (cvar l c).1.toNat (most+1)=most+1 by omega];cases h3:(nD (cvar l) (most+1) (cvar l c).2).2.2
   ·right;rw[Ff (pt l) _ _ h3];omega
   ·exact .inl rfl
  ·rw[if_neg (by rw[not_or];exact⟨h2,h1⟩)];rw[show Min.min (cvar l c).1.toNat (most+1)=(cvar l c).1.toNat by omega];rcases vm (pt l) (cvar l c).1.toNat (cvar l c).2 with h|h
   ·exact .inr h
   ·exact .inl ⟨.inl h.1,h.2⟩
theorem A1{l:List UInt8}{c:jh}{r:bA×jh}(hr:A2 l c=some r):lq l c=r∨(r.2.2=true∨fE r.1=false)∧(lq l c).2.2=true:=by
 have hn:=pc l (lp l c).2;simp only[A2,ao] at hr;obtain⟨ms,hms,rfl⟩:=hr;obtain⟨h1,h2,h3,h4⟩:=vn hms;simp only[lq,jX];by_cases hb:(cvar l (lp l c).2).2.2=true
 ·right;rw[if_pos (.inr hb)];have hms2:ms.2.2=true:=by rw[←h1];exact lM (pv l) _ _ hb
  refine⟨.inl ?_, ?_⟩
  ·simp only[mD];rw[sK _ _ (pt l _ hms2)];exact pt l _ hms2
  ·exact mI l _ _ (lM (pv l) _ _ rfl)
 ·by_cases ht:10<(cvar l (lp l c).2).1
  ·right;rw[if_pos (.inl ht)];refine⟨.inr (vr (.inl (.inl ?_))),mI l _ _ (lM (pv l) _ _ rfl)⟩;simp only[h4];omega
  ·rw[if_neg (by rw[not_or];exact⟨ht,hb⟩)];rw[show Min.min (cvar l (lp l c).2).1.toNat 11=(cvar l (lp l c).2).1.toNat by omega] at h1;rw[h1];rcases yn l 40 ms.2 with⟨q1,q2⟩|q
   ·right;refine⟨?_,q2⟩;rcases q1 with q1|q1
    ·exact .inl q1
    ·exact .inr (vr (.inl (.inr q1)))
   ·left;rw[q];rfl
theorem Ga(l:List UInt8)(c:jh):(match A2 l c with|some r=>r.2.2=false∧fE r.1=true|none=>False)↔(lq l c).2.2=false∧fE (lq l c).1=true:=by
 have hn:=pc l (lp l c).2;cases hs:A2 l c with
 |some r=>
  simp only;rcases A1 hs with h|⟨h1,h2⟩
  ·rw[h]
  ·constructor
   ·rintro ⟨h3,h4⟩;rcases h1 with h1|h1
    ·rw[h1] at h3;cases h3
    ·rw[h1] at h4;cases h4
   ·rintro ⟨h3,_⟩;rw[h2] at h3;cases h3
 |none=>
  simp only[false_iff];rintro ⟨h3,h4⟩;simp only[A2,Option.map_eq_none_iff] at hs;have hk:=zC hs;simp only[lq,jX] at h3 h4;by_cases hb:(cvar l (lp l c).2).2.2=true
  ·rw[if_pos (.inr hb)] at h3;rw[mI l _ _ (lM (pv l) _ _ rfl)] at h3;cases h3
  ·by_cases ht:10<(cvar l (lp l c).2).1
   ·rw[if_pos (.inl ht)] at h3;rw[mI l _ _ (lM (pv l) _ _ rfl)] at h3;cases h3
   ·rw[if_neg (by rw[not_or];exact⟨ht,hb⟩)] at h3 h4;rw[show Min.min (cvar l (lp l c).2).1.toNat 11=(cvar l (lp l c).2).1.toNat by omega] at hk;rcases hk with hk|⟨m,hm,hk⟩
    ·rw[mI l _ _ hk] at h3;cases h3
    ·rw[vr (.inr ⟨m,hm,hk⟩)] at h4;cases h4
theorem EM(l:List UInt8)(a:Int):sA l a=match A2 l (a,false) with
  |some r=>if r.2.2=false∧fE r.1=true then(r.1,r.2.1,true) else(yT,0,false)
  |none=>(yT,0,false):=by
 have h:=Ga l (a,false);unfold sA;cases hs:A2 l (a,false) with
 |none=>
  rw[hs] at h;simp only[false_iff] at h;rw[if_neg h]
 |some r=>
  rw[hs] at h;simp only at h ⊢;by_cases c:r.2.2=false∧fE r.1=true
  ·rw[if_pos c,if_pos (h.1 c)];rcases A1 hs with q|⟨q1,q2⟩
   ·rw[q]
   ·rw[(h.1 c).1] at q2;cases q2
  ·rw[if_neg c,if_neg fun k=>c (h.2 k)]
def EN(b:bA)(i:Nat)(acc:List bp)(l:List UInt8)(c:jh)(x:kU):List (Nat×Ob):=[(4,⟨x.a,7,true,true,[tf]⟩),(8,⟨x.b,7,true,true,[[I b.gid,S b.name,I b.time,I b.df,I b.next,if i=0 then .aK 4 else .row 70 x.c 0 i,.aK 1]]⟩),(17,nc 2000096 l c)]++if i=0 then [] else [(70,⟨x.c,4,true,false,acc.map ah⟩)]
def Ba(l:List UInt8)(b:bA)(n i:Nat)(acc:List bp)(c:jh)(x:kU):St:={t:=[(0,.c (S l)),(4,.c (.ptr 4 x.a 0 0)),(7,.c (.ptr 17 2000096 0 0)),(8,.c (.ptr 8 x.b 0 0)),(9,.c (I n)),(10,.c (I i))],o:=EN b i acc l c x,n:=x.d}
def KY(l:List UInt8)(b:bA)(n i:Nat)(acc:List bp)(c:jh)(x:kU):St:={t:=[(0,.c (S l)),(4,.c (.ptr 4 x.a 0 0)),(7,.c (.ptr 17 2000096 0 0)),(8,.c (.ptr 8 x.b 0 0)),(9,.c (I n)),(10,.c (I i)),(50,.c (.bool false))],o:=EN b i acc l c x,n:=x.d}
def CB(l:List UInt8)(b:bA)(n:Nat)(q:Option (List bp×jh))(m:kU×List (Nat×Ob)):Out×St:=match q with
 |none=>(.ret,{t:=[(4,.c (.ptr 4 m.1.a 0 0)),(5,.c (I 0)),(6,.c (.bool false))],o:=(4,⟨m.1.a,7,true,true,[tf]⟩)::m.2,n:=m.1.d})
 |some r=>(.exit 0,KY l b n r.1.length r.1 r.2 m.1)
theorem Gl(l:List UInt8)(b:bA)(n:Nat)(q:Option (List bp×jh))(m:kU×List (Nat×Ob)):(CB l b n q m).1≠.normal:=by cases q<;>simp[CB]
theorem bX.loop(k5:dz.k M)(l:List UInt8)(hl:l.length≤4611686018427387904)(b:bA)(n D:Nat)(hD:Min.min n 11=D)(c:jh)(hc:0<D→c.2=false):
  ∃g:kU→kU×List (Nat×Ob),∀x,eZ (ct (run M) (D+1) bX.l0) (D+1) (Ba l b n 0 [] c x)=some (CB l b n (qp l D c) (g x)):=by
 have:=jS (f:=ct (run M) (D+1) bX.l0) (fun s:Nat×List bp×jh=>Ba l b n s.1 s.2.1 s.2.2) (fun s=>s.1≤D∧s.2.1.length=s.1∧(s.1<D→s.2.2.2=false)) (fun s=>D-s.1)
  (fun s=>(qp l (D-s.1) s.2.2).map fun r=>(s.2.1++r.1,r.2)) (CB l b n) ?_ (D+1) (0,[],c) ⟨Nat.zero_le _,rfl,hc⟩ (by simp)
 ·simpa using this
 rintro ⟨i,acc,c⟩ x ⟨hi,ha,hc⟩;simp only at hi ha hc;by_cases hlt:i<D
 ·have hc:=hc hlt;obtain⟨ca,cb⟩:=c;simp only at hc;subst hc;have h2:=dz.al k5 l hl ca;have h3:i<n:=by omega
  have h4:i≤10:=by omega
  have h3':(i:Int)<n:=by omega
  have h4':(i:Int)≤10:=by omega
  have hd:D-i=(D-(i+1))+1:=by omega
  obtain⟨xa,xb,xc,xd⟩:=x;unfold rT at h2;by_cases hk:(jO l (ca,false)).2.2=false∧i_ (jO l (ca,false)).1=true
  ·left;rw[if_pos hk] at h2;refine⟨(i+1,acc++[(jO l (ca,false)).1],(jO l (ca,false)).2), ?_⟩;have hcc:(jO l (ca,false)).2=((jO l (ca,false)).2.1,false):=Prod.ext rfl hk.1;have hres:(qp l (D-(i+1)) (jO l (ca,false)).2).map (fun r=>((acc++[(jO l (ca,false)).1])++r.1,r.2))=(qp l (D-i) (ca,false)).map fun r=>(acc++r.1,r.2):=by
    rw[hd,qp,if_pos hk,Option.map_map];congr 1;funext r;simp
   simp only[hres,and_true];have hrun:∃y,ct (run M) (D+1) bX.l0 (Ba l b n i acc (ca,false) ⟨xa,xb,xc,xd⟩)=some (.normal,Ba l b n (i+1) (acc++[(jO l (ca,false)).1]) (jO l (ca,false)).2 y):=by
    rw[hcc];generalize jO l (ca,false)=r at*;simp only[kU.ex];cases i with
    |zero=>
     have:acc=[]:=aZ ha;subst this;simp (maxSteps:=9^9) [bX.l0,setAt,Ba,EN,h2,h3,wrap_one,jg,ah]
    |succ i=>
     have e5:IntKind.i64.wrap ((i:Int)+1+1)=(i:Int)+1+1:=wrap_i64 (by omega) (by omega);have e6:i+1+1≤4294967296:=by omega
     have h3':(i:Int)+1<n:=by omega
     have h4':(i:Int)+1≤10:=by omega
     simp (maxSteps:=9^9) [bX.l0,setAt,Ba,EN,h3',h4',h2,e5,e6,ha,jg,ah,aa]
   obtain⟨y,hy⟩:=hrun;exact⟨y,hy,⟨hlt,by simp[ha],fun _=>hk.1⟩,by omega⟩
  ·right;rw[if_neg hk] at h2;rw[hd,qp,if_neg hk];have hrun:∃z,ct (run M) (D+1) bX.l0 (Ba l b n i acc (ca,false) ⟨xa,xb,xc,xd⟩)=some (CB l b n none z):=by
    simp only[aE,kU.ex];cases i with
    |zero=>
     have:acc=[]:=aZ ha;subst this;simp (maxSteps:=9^9) [bX.l0,setAt,Ba,EN,CB,h2,h3,Bf]
    |succ i=>
     have h3':(i:Int)+1<n:=by omega
     have h4':(i:Int)+1≤10:=by omega
     simp (maxSteps:=9^9) [bX.l0,setAt,Ba,EN,CB,h3',h4',h2,Bf]
   obtain⟨z,hz⟩:=hrun;exact⟨z,hz,Gl _ _ _ _ _⟩
 ·have:i=D:=by omega
  subst this;right;rw[Nat.sub_self];simp only[qp,iV,dp];have hrun:∃z,ct (run M) (i+1) bX.l0 (Ba l b n i acc c x)=some (CB l b n (some (acc,c)) (z,[])):=by
   obtain⟨xa,xb,xc,xd⟩:=x;simp only[kU.ex];have hx:i=n∨i=11:=by omega
   rcases hx with rfl|rfl
   ·by_cases hz:i=0
    ·subst hz;simp (maxSteps:=9^9) [bX.l0,Ba,KY,CB,EN,ha]
    ·simp (maxSteps:=9^9) [bX.l0,Ba,KY,CB,EN,ha,hz]
   ·have h1:11≤n:=by omega
    by_cases h2:(11:Int)<n
    ·simp (maxSteps:=9^9) [bX.l0,Ba,KY,CB,EN,ha,h2]
    ·simp (maxSteps:=9^9) [bX.l0,Ba,KY,CB,EN,ha,h2]
  obtain⟨z,hz⟩:=hrun;exact⟨(z,[]),hz,Gl _ _ _ _ _⟩
theorem rh(l:List UInt8)(c:jh):(iH l c).1.length≤l.length:=by
 have h:(c_ l c.1).1.length≤l.length:=by
  unfold c_;split
  ·simp;omega
  ·simp
 unfold iH;split
 ·simp
 ·exact h
theorem wi(l:List UInt8)(c:jh):(jO l c).1.flags.length=3:=by simp[jO,lL]
theorem yl{l:List UInt8}:∀{d:Nat} {c:jh} {r:List bp×jh},qp l d c=some r→∀m∈r.1,m.flags.length=3
 |0,c,r,h=>by simp[qp] at h;subst h;simp
 |d+1,c,r,h=>by
  simp only[qp] at h;split at h
  ·simp only[ao] at h;obtain⟨q,hq,rfl⟩:=h;intro m hm;rcases List.mem_cons.1 hm with rfl|hm
   ·exact wi l c
   ·exact yl hq m hm
  ·cases h
theorem yj{α:Type}{p:jh→α×jh}:∀n c,(nD p n c).1.length≤n
 |0,c=>by simp[nD]
 |n+1,c=>by
  simp only[nD];split
  ·simp
  ·have:=yj (p:=p) n (p c).2;simp;omega
theorem bX.al(h:bX.k M)(l:List UInt8)(hl:l.length≤1048576)(a:Int):
  run M 52 [.c (S l),.c (I a)] []=some (.lN [.a (cm (sA l a).1),.c (I (sA l a).2.1),.c (.bool (sA l a).2.2)],[]):=by
 obtain⟨h0,k1,k2,k3,k5,k4⟩:=h;have hl2:l.length≤4611686018427387904:=by omega
 have h1:=cJ.at k2 l hl2 a false;have h2:=gM.al k3 l hl2 (cvar l (a,false)).2;have h3:=cJ.al k2 l hl2 (iH l (cvar l (a,false)).2).2;have h4:=cJ.al k2 l hl2 (cvar l (iH l (cvar l (a,false)).2).2).2;have h5:=cJ.al k2 l hl2 (cvar l (cvar l (iH l (cvar l (a,false)).2).2).2).2;rw[EM];have e0:A2 l (a,false)=(qp l (Min.min (cvar l (lp l (a,false)).2).1.toNat 11) (cvar l (lp l (a,false)).2).2).map fun ms=>({(lp l (a,false)).1 with ae:=ms.1,gone:=(mD l 40 ms.2).1},(mD l 40 ms.2).2):=rfl
 rw[e0];have e1:lp l (a,false)=(⟨(cvar l (a,false)).1,(iH l (cvar l (a,false)).2).1,(cvar l (iH l (cvar l (a,false)).2).2).1,(cvar l (cvar l (iH l (cvar l (a,false)).2).2).2).1,(cvar l (cvar l (cvar l (iH l (cvar l (a,false)).2).2).2).2).1,[],[]⟩,(cvar l (cvar l (cvar l (iH l (cvar l (a,false)).2).2).2).2).2):=rfl;rw[e1];clear e0 e1;have hname:=rh l (cvar l (a,false)).2;generalize cvar l (a,false)=q1 at*;generalize iH l q1.2=q2 at*;generalize cvar l q2.2=q3 at*;generalize cvar l q3.2=q4 at*;generalize cvar l q4.2=q5 at*;have h6:=cJ.al k2 l hl2 q5.2;have hn:=pc l q5.2;have hz:(cvar l q5.2).2.2=true→(cvar l q5.2).1=0:=by
  unfold cvar;split
  ·intro _;rfl
  ·intro h;cases h
 simp only;generalize cvar l q5.2=q6 at*;obtain⟨n,c1⟩:=q6;simp only at hn hz ⊢;obtain⟨n,rfl⟩:=h_ hn.1;simp only[fy];obtain⟨D,hD⟩:∃D,Min.min n 11=D:=⟨_,rfl⟩
 refine aA (b:=bX.m) h0 ⟨D+1, ?_⟩;obtain⟨g,hr⟩:=bX.loop k5 l hl2 ⟨q1.1,q2.1,q3.1,q4.1,q5.1,[],[]⟩ n D hD c1 (fun hd=>by
  cases hc:c1.2
  ·rfl
  ·have:=hz hc;omega)
 rw[hD]
 replace hr:=fun a b d=>hr ⟨a,b,0,d⟩
 cases hq:qp l D c1 with
 |none=>
  simp only[hq] at hr;simp[Ba,EN,CB] at hr;simp only[Option.map_none];simp (maxSteps:=9^9) [ba,bX.m,bX.b,ab,setAt,h1,h2,h3,h4,h5,h6,hr,yT,az]
 |some r=>
  simp only[hq] at hr;simp only[iV];obtain⟨m1,m2,m3,m4⟩:=vn hq;have m5:=yl hq;have h7:=eE.al k4 l hl2 40 (by omega) r.2;simp only[bO] at h7;have hgl:(mD l 40 r.2).1.length≤41:=by
   unfold mD;exact Nat.le_trans (yj _ _) (by omega)
  have h8:=bE.al k1 ⟨q1.1,q2.1,q3.1,q4.1,q5.1,r.1,(mD l 40 r.2).1⟩ (by simp only[m4];omega) (by simp only;omega) (by simp only;omega) (fun m hm=>by rw[m5 m hm];omega);simp only[af] at h8;generalize mD l 40 r.2=w at*;generalize hbb:fE _=ok at*;by_cases hz:D=0
  ·have hr0:r.1=[]:=aZ (by omega);subst hz;simp[Ba,KY,EN,CB,hr0] at hr;simp only[hr0,ae,ints,az,bF] at h8;cases c1:w.2.2
   ·cases ok<;>simp (maxSteps:=9^9) [ba,bX.m,bX.b,ab,setAt,h1,h2,h3,h4,h5,h6,h7,h8,hr,hr0,c1,yT,az,aa]
   ·simp (maxSteps:=9^9) [ba,bX.m,bX.b,ab,setAt,h1,h2,h3,h4,h5,h6,h7,hr,c1,yT,az,aa]
  ·have hz':¬r.1.length=0:=by omega
   have hz'':r.1≠[]:=fun e=>hz' (by rw[e];rfl)
   simp only[ae,ints,az] at h8;simp[Ba,KY,EN,CB,hz''] at hr;cases c1:w.2.2
   ·cases ok<;>simp (maxSteps:=9^9) [ba,bX.m,bX.b,ab,setAt,h1,h2,h3,h4,h5,h6,h7,h8,hr,c1,yT,az,aa]
   ·simp (maxSteps:=9^9) [ba,bX.m,bX.b,ab,setAt,h1,h2,h3,h4,h5,h6,h7,hr,c1,yT,az,aa]
theorem nZ{s:aT}(h:a8 s=true):isVar s.df∧isVar s.time∧s.boxes.length≤5∧s.gone.length≤20∧(∀n∈s.gone,isVar n)∧(∀b∈s.boxes,fE b=true)∧1≤s.df∧s.df≤2:=by
 simp only[a8,aj,decide_eq_true_eq,cn,ju,jI] at h;obtain⟨⟨⟨⟨h1,h2⟩,h3⟩,h4⟩,h5⟩:=h;have hg:=nW h4;refine⟨⟨by omega,by omega⟩,⟨by omega,by omega⟩,h3,by omega,fun n hn=>⟨by have:=hg.2 n hn;omega,by have:=hg.2 n hn;omega⟩,fun b hb=> ?_,h1.1,h1.2⟩;obtain⟨i,hi,rfl⟩:=bW hb;have:=h5 i hi;rw[og hi,oG hi] at this;simp at this;exact this.1.1.1.1.1
theorem qu{b:bA}(h:fE b=true):(oX b).length≤11000:=by
 obtain⟨v1,v2,v3,v4,v5,v6,v7,v8,v9⟩:=jR h;have:=yu h;have:=jJ cZ b.gone 10 fun n hn=>cz (v8 n hn)
 have:=jJ mA b.ae 1000 fun m hm=>oy (v9 m hm)
 have:=jc (n:=b.gone.length) (by omega);simp only[oX,ax];omega
def mi(s:aT):List UInt8:=cZ s.df++(cZ s.time++gE s.boxes.length)
def storeT(s:aT):List UInt8:=mi s++(texts oX s.boxes++(gE s.gone.length++texts cZ s.gone))
def gK(s:aT):List UInt8×Bool:=if a8 s=true then mm (storeT s) else([],false)
theorem wY{s:aT}(h:a8 s=true):(mi s).length≤30:=by
 obtain⟨v1,v2,v3,v4,v5,v6,_⟩:=nZ h;have:=cz v1;have:=cz v2;have:=jc (n:=s.boxes.length) (by omega);simp only[mi,ax];omega
def Ns(s:aT)(i:Nat)(t:List UInt8)(x:Nat×Nat):St:={t:=[(1,.c (.ptr 1 x.1 0 0)),(4,.c (S t)),(5,.c (I i))],o:=[(1,⟨x.1,4,true,true,[ai s]⟩)],n:=x.2}
def N9(s:aT)(t:List UInt8)(x:Nat×Nat):St:={t:=[(1,.c (.ptr 1 x.1 0 0)),(4,.c (S t)),(5,.c (I s.boxes.length)),(28,.c (.bool false))],o:=[(1,⟨x.1,4,true,true,[ai s]⟩)],n:=x.2}
def Io(s:aT)(i:Nat)(t:List UInt8)(x:Nat×Nat):St:={t:=[(1,.c (.ptr 1 x.1 0 0)),(4,.c (S t)),(8,.c (I i))],o:=[(1,⟨x.1,4,true,true,[ai s]⟩)],n:=x.2}
def KI(s:aT)(t:List UInt8)(x:Nat×Nat):St:={t:=[(1,.c (.ptr 1 x.1 0 0)),(4,.c (S t)),(8,.c (I s.gone.length)),(53,.c (.bool false))],o:=[(1,⟨x.1,4,true,true,[ai s]⟩)],n:=x.2}
theorem ch.al(h:ch.k M)(s:aT)(hs:gJ s):run M 60 [.a (ai s)] []=some (.lN [.c (S (gK s).1),.c (.bool (gK s).2)],[]):=by
 obtain⟨h0,kb,kv,kse,ko⟩:=h;have h1:=aL.al ko s hs;refine aA (b:=ch.m) h0 ⟨s.boxes.length+s.gone.length+1, ?_⟩;simp only[ai] at h1;unfold gK;cases c:a8 s
 ·rw[c] at h1;simp (maxSteps:=9^9) [ba,ch.m,ch.b,ab,h1]
 rw[c] at h1;obtain⟨v1,v2,v3,v4,v5,v6,_⟩:=nZ c;have g1:=bH.int kv s.df v1.1 (by have:=v1.2;omega);have g2:=bH.int kv s.time v2.1 (by have:=v2.2;omega);have g6:=bH.al kv s.boxes.length (by omega);have g7:=bH.al kv s.gone.length (by omega);have l1:=cz v1;have l2:=cz v2;have l7:=jc (n:=s.boxes.length) (by omega);have l8:=jc (n:=s.gone.length) (by omega);have l9:=jJ cZ s.gone 10 fun n hn=>cz (v5 n hn)
 have l10:=jJ oX s.boxes 11000 fun b hb=>qu (v6 b hb)
 have hp:=wY c;obtain⟨g,hr⟩:=nu (f:=ct (run M) (s.boxes.length+s.gone.length+1) ch.l0) s.boxes oX 11000 30 (fun b hb=>qu (v6 b hb)) (Ns s) 0 (N9 s)
  (fun i hi t x ht=>by
   obtain⟨v,x⟩:=x;have e5:=cA (i:=i) (by omega);have hx:=v6 _ (aq hi);have hin:=(hs.i _ (aq hi)).ok;have h6:=dv.al kb s.boxes[i] hin.1 hin.2.1 hin.2.2.1 hin.2.2.2;rw[if_pos hx,hx] at h6;have h7:=qu hx;simp only[af] at h6;simp only[aE];have e6:=bL t (oX s.boxes[i]) (by omega);simp (maxSteps:=9^9) [ch.l0,Ns,hi,h6,e5,e6,af])
  (fun t x=>by
   obtain⟨v,x⟩:=x;simp only[aE];simp (maxSteps:=9^9) [ch.l0,Ns,N9]) (mi s) hp
 obtain⟨g',hr'⟩:=nu (f:=ct (run M) (s.boxes.length+s.gone.length+1) ch.l1) s.gone cZ 10 56000 (fun n hn=>cz (v5 n hn)) (Io s) 2 (KI s)
  (fun i hi t x ht=>by
   obtain⟨v,x⟩:=x;have e5:=cA (i:=i) (by omega);have hx:=v5 _ (aq hi);have h6:=bH.int kv s.gone[i] hx.1 (by have:=hx.2;omega);have h7:=cz hx;simp only[aE];have e6:=bL t (cZ s.gone[i]) (by omega);simp (maxSteps:=9^9) [ch.l1,Io,hi,h6,e5,e6])
  (fun t x=>by
   obtain⟨v,x⟩:=x;simp only[aE];simp (maxSteps:=9^9) [ch.l1,Io,KI]) (mi s++texts oX s.boxes++gE s.gone.length) (by simp;omega)
 have e1:=bL (cZ s.df) (cZ s.time) (by omega);have e2:=bL (cZ s.df++cZ s.time) (gE s.boxes.length) (by simp;omega);have e3:mi s=cZ s.df++cZ s.time++gE s.boxes.length:=by simp[mi]
 rw[←e3] at e2;have e8:=bL (mi s++texts oX s.boxes) (gE s.gone.length) (by simp;omega);have hse:=ig.al kse (storeT s) (by simp only[storeT,ax];omega);simp only[storeT] at hse ⊢;simp only[bN] at e1 e2 e8 hse;simp[Ns,N9] at hr;simp[Io,KI] at hr';have hr2:=fun x y=>gT (hr x y) (show s.boxes.length+1≤s.boxes.length+s.gone.length+1 by omega)
 have hr3:=fun x y=>gT (hr' x y) (show s.gone.length+1≤s.boxes.length+s.gone.length+1 by omega)
 generalize mi s=p at*;generalize texts oX s.boxes=q at*;generalize texts cZ s.gone=r at*;simp (maxSteps:=9^9) [ba,ch.m,ch.b,ab,hr2,hr3,h1,g1,g2,g6,g7,e1,e2,e8,hse]
end Mx

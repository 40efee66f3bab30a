/-
  Small codes: laws.eqIntS, laws.markIntS, laws.heldIntS, laws.szIntS, laws.toIntS.
-/
import Derived.Test.YtpocolhpkkkmeaaMxB
import Derived.Sort.Row
import Derived.Sort.Grow
import Derived.Lib.SlicesCompact
set_option linter.unusedSimpArgs false
set_option linter.unusedVariables false
namespace Mx
open Go
def laws_eqIntS.l0 : C := .seq (.seq (.reg [⟨some 11, .mv (.t 5), none⟩,
    ⟨some 12, .mv (.t 0), none⟩,
    ⟨some 13, .len (.t 12), none⟩,
    ⟨some 14, .bin .lss (.t 11) (.t 13), none⟩] [0, 1, 5, 14] [])
  (.cond (.t 14) (.skip) (.exit 0)))
  (.seq (.block 1 (.seq (.regd [⟨some 17, .mv (.t 0), none⟩,
    ⟨some 18, .mv (.t 5), none⟩,
    ⟨some 19, .iaddr 1 (.t 17) (.t 18), none⟩,
    ⟨some 20, .load false 1 (.t 19), none⟩,
    ⟨some 21, .mv (.t 1), none⟩,
    ⟨some 22, .mv (.t 5), none⟩,
    ⟨some 23, .iaddr 1 (.t 21) (.t 22), none⟩,
    ⟨some 24, .load false 1 (.t 23), none⟩,
    ⟨some 25, .bin .neq (.t 20) (.t 24), none⟩] [[], [], [0, 1], [0, 1, 2], [], [], [4, 5], [4, 5, 6], [0, 1, 2, 3, 4, 5, 6, 7]] [0, 1, 5, 25] [])
  (.cond (.t 25) (.seq (.reg [⟨some 4, .mv (.k (.bool false)), none⟩] [4] [])
  (.ret)) (.skip))))
  (.reg [⟨some 15, .mv (.t 5), none⟩,
    ⟨some 16, .bin .add (.t 15) (.k (.int .i64 1)), none⟩,
    ⟨some 5, .mv (.t 16), none⟩] [0, 1, 5] []))
def laws_eqIntS.b : C := .seq (.reg [⟨some 4, .mv (.k (.bool false)), none⟩] [0, 1] [])
  (.seq (.seq (.reg [⟨some 6, .mv (.t 0), none⟩,
    ⟨some 7, .len (.t 6), none⟩,
    ⟨some 8, .mv (.t 1), none⟩,
    ⟨some 9, .len (.t 8), none⟩,
    ⟨some 10, .bin .neq (.t 7) (.t 9), none⟩] [0, 1, 10] [])
  (.cond (.t 10) (.seq (.reg [⟨some 4, .mv (.k (.bool false)), none⟩] [4] [])
  (.ret)) (.skip)))
  (.seq (.seq (.reg [⟨some 5, .mv (.k (.int .i64 0)), none⟩] [0, 1, 5] [])
  (.block 0 (.loop laws_eqIntS.l0)))
  (.seq (.reg [⟨some 4, .mv (.k (.bool true)), none⟩] [4] [])
  (.ret))))
def laws_eqIntS.m : Fn := { np := 2, body := laws_eqIntS.b, res := [.tmp 4] }
def laws_eqIntS.k (M : Nat → Option Body) : Prop := M 45 = some (.code laws_eqIntS.m)
def laws_markIntS.l0 : C := .seq (.seq (.reg [⟨some 6, .mv (.t 5), none⟩,
    ⟨some 7, .mv (.t 0), none⟩,
    ⟨some 8, .len (.t 7), none⟩,
    ⟨some 9, .bin .lss (.t 6) (.t 8), none⟩] [0, 1, 5, 9] [0])
  (.cond (.t 9) (.skip) (.exit 0)))
  (.seq (.block 1 (.seq (.reg [⟨some 12, .mv (.t 0), none⟩,
    ⟨some 13, .mv (.t 5), none⟩,
    ⟨some 14, .mv (.t 1), none⟩,
    ⟨some 15, .iaddr 1 (.t 12) (.t 13), none⟩,
    ⟨none, .store 1 (.t 15) (.t 14), none⟩] [0, 1, 5] [0])
  (.reg [⟨some 16, .mv (.t 1), none⟩,
    ⟨some 17, .bin .add (.t 16) (.k (.int .i64 1)), none⟩,
    ⟨some 1, .mv (.t 17), none⟩] [0, 1, 5] [0])))
  (.reg [⟨some 10, .mv (.t 5), none⟩,
    ⟨some 11, .bin .add (.t 10) (.k (.int .i64 1)), none⟩,
    ⟨some 5, .mv (.t 11), none⟩] [0, 1, 5] [0]))
def laws_markIntS.b : C := .seq (.reg [⟨some 4, .mv (.k (.int .i64 0)), none⟩] [0, 1] [0])
  (.seq (.seq (.reg [⟨some 5, .mv (.k (.int .i64 0)), none⟩] [0, 1, 5] [0])
  (.block 0 (.loop laws_markIntS.l0)))
  (.seq (.reg [⟨some 18, .mv (.t 1), none⟩,
    ⟨some 4, .mv (.t 18), none⟩] [4] [0])
  (.ret)))
def laws_markIntS.m : Fn := { np := 2, body := laws_markIntS.b, res := [.tmp 4] }
def laws_markIntS.k (M : Nat → Option Body) : Prop := M 46 = some (.code laws_markIntS.m)
def laws_heldIntS.l0 : C := .seq (.seq (.reg [⟨some 6, .mv (.t 5), none⟩,
    ⟨some 7, .mv (.t 0), none⟩,
    ⟨some 8, .len (.t 7), none⟩,
    ⟨some 9, .bin .lss (.t 6) (.t 8), none⟩] [0, 1, 5, 9] [])
  (.cond (.t 9) (.skip) (.exit 0)))
  (.seq (.block 1 (.seq (.seq (.reg [⟨some 12, .mv (.t 0), none⟩,
    ⟨some 13, .mv (.t 5), none⟩,
    ⟨some 14, .iaddr 1 (.t 12) (.t 13), none⟩,
    ⟨some 15, .load false 1 (.t 14), none⟩,
    ⟨some 16, .mv (.t 1), none⟩,
    ⟨some 17, .bin .neq (.t 15) (.t 16), none⟩] [0, 1, 5, 17] [])
  (.cond (.t 17) (.seq (.reg [⟨some 4, .mv (.k (.int .i64 (-1))), none⟩] [4] [])
  (.ret)) (.skip)))
  (.reg [⟨some 18, .mv (.t 1), none⟩,
    ⟨some 19, .bin .add (.t 18) (.k (.int .i64 1)), none⟩,
    ⟨some 1, .mv (.t 19), none⟩] [0, 1, 5] [])))
  (.reg [⟨some 10, .mv (.t 5), none⟩,
    ⟨some 11, .bin .add (.t 10) (.k (.int .i64 1)), none⟩,
    ⟨some 5, .mv (.t 11), none⟩] [0, 1, 5] []))
def laws_heldIntS.b : C := .seq (.reg [⟨some 4, .mv (.k (.int .i64 0)), none⟩] [0, 1] [])
  (.seq (.seq (.reg [⟨some 5, .mv (.k (.int .i64 0)), none⟩] [0, 1, 5] [])
  (.block 0 (.loop laws_heldIntS.l0)))
  (.seq (.reg [⟨some 20, .mv (.t 1), none⟩,
    ⟨some 4, .mv (.t 20), none⟩] [4] [])
  (.ret)))
def laws_heldIntS.m : Fn := { np := 2, body := laws_heldIntS.b, res := [.tmp 4] }
def laws_heldIntS.k (M : Nat → Option Body) : Prop := M 47 = some (.code laws_heldIntS.m)
def laws_szIntS.b : C := .seq (.reg [⟨some 4, .mv (.k (.int .i64 0)), none⟩] [0, 1] [])
  (.seq (.reg [⟨some 5, .mv (.t 1), none⟩,
    ⟨some 6, .mv (.t 0), none⟩,
    ⟨some 7, .len (.t 6), none⟩,
    ⟨some 8, .bin .sub (.t 5) (.t 7), none⟩,
    ⟨some 1, .mv (.t 8), none⟩] [1] [])
  (.seq (.seq (.reg [⟨some 9, .mv (.t 1), none⟩,
    ⟨some 10, .bin .lss (.t 9) (.k (.int .i64 0)), none⟩] [1, 10] [])
  (.cond (.t 10) (.seq (.reg [⟨some 4, .mv (.k (.int .i64 (-1))), none⟩] [4] [])
  (.ret)) (.skip)))
  (.seq (.reg [⟨some 11, .mv (.t 1), none⟩,
    ⟨some 4, .mv (.t 11), none⟩] [4] [])
  (.ret))))
def laws_szIntS.m : Fn := { np := 2, body := laws_szIntS.b, res := [.tmp 4] }
def laws_szIntS.k (M : Nat → Option Body) : Prop := M 108 = some (.code laws_szIntS.m)
def laws_toIntS.l0 : C := .seq (.seq (.reg [⟨some 8, .mv (.t 4), none⟩,
    ⟨some 9, .mv (.t 0), none⟩,
    ⟨some 10, .len (.t 9), none⟩,
    ⟨some 11, .bin .lss (.t 8) (.t 10), none⟩] [0, 3, 4, 11] [7])
  (.cond (.t 11) (.skip) (.exit 0)))
  (.seq (.block 1 (.reg [⟨some 14, .mv (.t 3), none⟩,
    ⟨some 15, .mv (.t 4), none⟩,
    ⟨some 16, .mv (.t 0), none⟩,
    ⟨some 17, .mv (.t 4), none⟩,
    ⟨some 18, .iaddr 1 (.t 16) (.t 17), none⟩,
    ⟨some 19, .load false 1 (.t 18), none⟩,
    ⟨some 20, .iaddr 1 (.t 14) (.t 15), none⟩,
    ⟨none, .store 1 (.t 20) (.t 19), none⟩] [0, 3, 4] [7]))
  (.reg [⟨some 12, .mv (.t 4), none⟩,
    ⟨some 13, .bin .add (.t 12) (.k (.int .i64 1)), none⟩,
    ⟨some 4, .mv (.t 13), none⟩] [0, 3, 4] [7]))
def laws_toIntS.b : C := .seq (.reg [⟨some 2, .nil 1, none⟩] [0] [])
  (.seq (.reg [⟨some 5, .mv (.t 0), none⟩,
    ⟨some 6, .len (.t 5), none⟩,
    ⟨some 7, .mks 1 8 [.int .i64 0] (.t 6), none⟩,
    ⟨some 3, .mv (.t 7), none⟩] [0, 3] [7])
  (.seq (.seq (.reg [⟨some 4, .mv (.k (.int .i64 0)), none⟩] [0, 3, 4] [7])
  (.block 0 (.loop laws_toIntS.l0)))
  (.seq (.reg [⟨some 21, .mv (.t 3), none⟩,
    ⟨some 2, .mv (.t 21), none⟩] [2] [2, 7])
  (.ret))))
def laws_toIntS.m : Fn := { np := 1, body := laws_toIntS.b, res := [.tmp 2] }
def laws_toIntS.k (M : Nat → Option Body) : Prop := M 42 = some (.code laws_toIntS.m)
end Mx

/-
  Small codes: laws.toStamp, laws.toReg, laws.toRegS, laws.toMail, laws.toMailS, laws.toBox, laws.szRegS, laws.szMail, laws.szMailS, laws.szBox, laws.eqStamp, laws.eqReg, laws.eqRegS, laws.eqMail, laws.eqMailS, laws.eqBox.
-/
namespace Mx
open Go
def laws_toStamp.b : C := .seq (.reg [⟨some 1, .box (.t 0), none⟩,
    ⟨some 2, .alloc [.int .i64 0, .int .i64 0], none⟩] [1, 2] [1, 2])
  (.seq (.reg [⟨some 3, .alloc [.int .i64 0, .int .i64 0], none⟩] [1, 2, 3] [1, 2, 3])
  (.seq (.reg [⟨some 4, .faddr 0 (.t 1), none⟩,
    ⟨some 5, .load false 1 (.t 4), none⟩,
    ⟨some 6, .faddr 0 (.t 3), none⟩,
    ⟨none, .store 1 (.t 6) (.t 5), none⟩] [1, 2, 3] [1, 2, 3])
  (.seq (.reg [⟨some 7, .faddr 1 (.t 1), none⟩,
    ⟨some 8, .load false 1 (.t 7), none⟩,
    ⟨some 9, .faddr 1 (.t 3), none⟩,
    ⟨none, .store 1 (.t 9) (.t 8), none⟩] [2, 3] [2, 3])
  (.seq (.reg [⟨some 10, .load true 2 (.t 3), none⟩,
    ⟨none, .store 2 (.t 2) (.t 10), none⟩] [2] [2])
  (.ret)))))
def laws_toStamp.m : Fn := { np := 1, body := laws_toStamp.b, res := [.cell 2 true 2] }
def laws_toStamp.k (M : Nat → Option Body) : Prop := M 109 = some (.code laws_toStamp.m)
def laws_toReg.b : C := .seq (.reg [⟨some 1, .box (.t 0), none⟩,
    ⟨some 2, .alloc [.int .i64 0, .int .i64 0, .int .i64 0], none⟩] [1, 2] [1, 2])
  (.seq (.reg [⟨some 3, .alloc [.int .i64 0, .int .i64 0, .int .i64 0], none⟩] [1, 2, 3] [1, 2, 3])
  (.seq (.reg [⟨some 4, .faddr 0 (.t 1), none⟩,
    ⟨some 5, .load false 1 (.t 4), none⟩,
    ⟨some 6, .faddr 0 (.t 3), none⟩,
    ⟨none, .store 1 (.t 6) (.t 5), none⟩] [1, 2, 3] [1, 2, 3])
  (.seq (.reg [⟨some 7, .faddr 1 (.t 1), none⟩,
    ⟨some 8, .load true 2 (.t 7), none⟩,
    ⟨some 9, .call 109 [.t 8] [] [], none⟩,
    ⟨some 10, .faddr 1 (.t 3), none⟩,
    ⟨none, .store 2 (.t 10) (.t 9), none⟩] [2, 3] [2, 3])
  (.seq (.reg [⟨some 11, .load true 3 (.t 3), none⟩,
    ⟨none, .store 3 (.t 2) (.t 11), none⟩] [2] [2])
  (.ret)))))
def laws_toReg.m : Fn := { np := 1, body := laws_toReg.b, res := [.cell 2 true 3] }
def laws_toReg.k (M : Nat → Option Body) : Prop := M 288 = some (.code laws_toReg.m) ∧ laws_toStamp.k M
def laws_toRegS.l0 : C := .seq (.seq (.reg [⟨some 8, .mv (.t 4), none⟩,
    ⟨some 9, .mv (.t 0), none⟩,
    ⟨some 10, .len (.t 9), none⟩,
    ⟨some 11, .bin .lss (.t 8) (.t 10), none⟩] [0, 3, 4, 11] [7])
  (.cond (.t 11) (.skip) (.exit 0)))
  (.seq (.block 1 (.reg [⟨some 14, .mv (.t 3), none⟩,
    ⟨some 15, .mv (.t 4), none⟩,
    ⟨some 16, .mv (.t 0), none⟩,
    ⟨some 17, .mv (.t 4), none⟩,
    ⟨some 18, .iaddr 3 (.t 16) (.t 17), none⟩,
    ⟨some 19, .load true 3 (.t 18), none⟩,
    ⟨some 20, .call 288 [.t 19] [] [], none⟩,
    ⟨some 21, .iaddr 3 (.t 14) (.t 15), none⟩,
    ⟨none, .store 3 (.t 21) (.t 20), none⟩] [0, 3, 4] [7]))
  (.reg [⟨some 12, .mv (.t 4), none⟩,
    ⟨some 13, .bin .add (.t 12) (.k (.int .i64 1)), none⟩,
    ⟨some 4, .mv (.t 13), none⟩] [0, 3, 4] [7]))
def laws_toRegS.b : C := .seq (.reg [⟨some 2, .nil 3, none⟩] [0] [])
  (.seq (.reg [⟨some 5, .mv (.t 0), none⟩,
    ⟨some 6, .len (.t 5), none⟩,
    ⟨some 7, .mks 3 24 [.int .i64 0, .int .i64 0, .int .i64 0] (.t 6), none⟩,
    ⟨some 3, .mv (.t 7), none⟩] [0, 3] [7])
  (.seq (.seq (.reg [⟨some 4, .mv (.k (.int .i64 0)), none⟩] [0, 3, 4] [7])
  (.block 0 (.loop laws_toRegS.l0)))
  (.seq (.reg [⟨some 22, .mv (.t 3), none⟩,
    ⟨some 2, .mv (.t 22), none⟩] [2] [2, 7])
  (.ret))))
def laws_toRegS.m : Fn := { np := 1, body := laws_toRegS.b, res := [.tmp 2] }
def laws_toRegS.k (M : Nat → Option Body) : Prop := M 251 = some (.code laws_toRegS.m) ∧ laws_toReg.k M
def laws_toMail.b : C := .seq (.reg [⟨some 1, .box (.t 0), none⟩,
    ⟨some 2, .alloc [.int .i64 0, .int .i64 0, .nils 3, .str ⟨#[]⟩], none⟩] [1, 2] [1, 2, 11200])
  (.seq (.reg [⟨some 3, .alloc [.int .i64 0, .int .i64 0, .nils 3, .str ⟨#[]⟩], none⟩] [1, 2, 3] [1, 2, 3, 11200])
  (.seq (.reg [⟨some 4, .faddr 0 (.t 1), none⟩,
    ⟨some 5, .load false 1 (.t 4), none⟩,
    ⟨some 6, .faddr 0 (.t 3), none⟩,
    ⟨none, .store 1 (.t 6) (.t 5), none⟩] [1, 2, 3] [1, 2, 3, 11200])
  (.seq (.reg [⟨some 7, .faddr 1 (.t 1), none⟩,
    ⟨some 8, .load false 1 (.t 7), none⟩,
    ⟨some 9, .faddr 1 (.t 3), none⟩,
    ⟨none, .store 1 (.t 9) (.t 8), none⟩] [1, 2, 3] [1, 2, 3, 11200])
  (.seq (.reg [⟨some 10, .faddr 2 (.t 1), none⟩,
    ⟨some 11, .load false 1 (.t 10), none⟩,
    ⟨some 12, .call 251 [.t 11] [] [(0, 11200)], none⟩,
    ⟨some 13, .faddr 2 (.t 3), none⟩,
    ⟨none, .store 1 (.t 13) (.t 12), none⟩] [1, 2, 3] [1, 2, 3, 11200])
  (.seq (.reg [⟨some 14, .faddr 3 (.t 1), none⟩,
    ⟨some 15, .load false 1 (.t 14), none⟩,
    ⟨some 16, .faddr 3 (.t 3), none⟩,
    ⟨none, .store 1 (.t 16) (.t 15), none⟩] [2, 3] [2, 3, 11200])
  (.seq (.reg [⟨some 17, .load true 4 (.t 3), none⟩,
    ⟨none, .store 4 (.t 2) (.t 17), none⟩] [2] [2, 11200])
  (.ret)))))))
def laws_toMail.m : Fn := { np := 1, body := laws_toMail.b, res := [.cell 2 true 4] }
def laws_toMail.k (M : Nat → Option Body) : Prop := M 209 = some (.code laws_toMail.m) ∧ laws_toRegS.k M
def laws_toMailS.l0 : C := .seq (.seq (.reg [⟨some 8, .mv (.t 4), none⟩,
    ⟨some 9, .mv (.t 0), none⟩,
    ⟨some 10, .len (.t 9), none⟩,
    ⟨some 11, .bin .lss (.t 8) (.t 10), none⟩] [0, 3, 4, 11] [7])
  (.cond (.t 11) (.skip) (.exit 0)))
  (.seq (.block 1 (.reg [⟨some 14, .mv (.t 3), none⟩,
    ⟨some 15, .mv (.t 4), none⟩,
    ⟨some 16, .mv (.t 0), none⟩,
    ⟨some 17, .mv (.t 4), none⟩,
    ⟨some 18, .iaddr 4 (.t 16) (.t 17), none⟩,
    ⟨some 19, .load true 4 (.t 18), none⟩,
    ⟨some 20, .call 209 [.t 19] [] [], none⟩,
    ⟨some 21, .iaddr 4 (.t 14) (.t 15), none⟩,
    ⟨none, .store 4 (.t 21) (.t 20), none⟩] [0, 3, 4] [7]))
  (.reg [⟨some 12, .mv (.t 4), none⟩,
    ⟨some 13, .bin .add (.t 12) (.k (.int .i64 1)), none⟩,
    ⟨some 4, .mv (.t 13), none⟩] [0, 3, 4] [7]))
def laws_toMailS.b : C := .seq (.reg [⟨some 2, .nil 4, none⟩] [0] [])
  (.seq (.reg [⟨some 5, .mv (.t 0), none⟩,
    ⟨some 6, .len (.t 5), none⟩,
    ⟨some 7, .mks 4 56 [.int .i64 0, .int .i64 0, .nils 3, .str ⟨#[]⟩] (.t 6), none⟩,
    ⟨some 3, .mv (.t 7), none⟩] [0, 3] [7])
  (.seq (.seq (.reg [⟨some 4, .mv (.k (.int .i64 0)), none⟩] [0, 3, 4] [7])
  (.block 0 (.loop laws_toMailS.l0)))
  (.seq (.reg [⟨some 22, .mv (.t 3), none⟩,
    ⟨some 2, .mv (.t 22), none⟩] [2] [2, 7])
  (.ret))))
def laws_toMailS.m : Fn := { np := 1, body := laws_toMailS.b, res := [.tmp 2] }
def laws_toMailS.k (M : Nat → Option Body) : Prop := M 110 = some (.code laws_toMailS.m) ∧ laws_toMail.k M
def laws_toBox.b : C := .seq (.reg [⟨some 1, .box (.t 0), none⟩,
    ⟨some 2, .alloc [.int .i64 0, .str ⟨#[]⟩, .int .i64 0, .int .i64 0, .int .i64 0, .nils 4, .nils 1], none⟩] [1, 2] [1, 2, 11900, 12300])
  (.seq (.reg [⟨some 3, .alloc [.int .i64 0, .str ⟨#[]⟩, .int .i64 0, .int .i64 0, .int .i64 0, .nils 4, .nils 1], none⟩] [1, 2, 3] [1, 2, 3, 11900, 12300])
  (.seq (.reg [⟨some 4, .faddr 0 (.t 1), none⟩,
    ⟨some 5, .load false 1 (.t 4), none⟩,
    ⟨some 6, .faddr 0 (.t 3), none⟩,
    ⟨none, .store 1 (.t 6) (.t 5), none⟩] [1, 2, 3] [1, 2, 3, 11900, 12300])
  (.seq (.reg [⟨some 7, .faddr 1 (.t 1), none⟩,
    ⟨some 8, .load false 1 (.t 7), none⟩,
    ⟨some 9, .faddr 1 (.t 3), none⟩,
    ⟨none, .store 1 (.t 9) (.t 8), none⟩] [1, 2, 3] [1, 2, 3, 11900, 12300])
  (.seq (.reg [⟨some 10, .faddr 2 (.t 1), none⟩,
    ⟨some 11, .load true 2 (.t 10), none⟩,
    ⟨some 12, .call 109 [.t 11] [] [], none⟩,
    ⟨some 13, .faddr 2 (.t 3), none⟩,
    ⟨none, .store 2 (.t 13) (.t 12), none⟩] [1, 2, 3] [1, 2, 3, 11900, 12300])
  (.seq (.reg [⟨some 14, .faddr 4 (.t 1), none⟩,
    ⟨some 15, .load false 1 (.t 14), none⟩,
    ⟨some 16, .faddr 4 (.t 3), none⟩,
    ⟨none, .store 1 (.t 16) (.t 15), none⟩] [1, 2, 3] [1, 2, 3, 11900, 12300])
  (.seq (.reg [⟨some 17, .faddr 5 (.t 1), none⟩,
    ⟨some 18, .load false 1 (.t 17), none⟩,
    ⟨some 19, .call 110 [.t 18] [] [(0, 11900)], none⟩,
    ⟨some 20, .faddr 5 (.t 3), none⟩,
    ⟨none, .store 1 (.t 20) (.t 19), none⟩] [1, 2, 3] [1, 2, 3, 11900, 12300])
  (.seq (.reg [⟨some 21, .faddr 6 (.t 1), none⟩,
    ⟨some 22, .load false 1 (.t 21), none⟩,
    ⟨some 23, .call 42 [.t 22] [] [(0, 12300)], none⟩,
    ⟨some 24, .faddr 6 (.t 3), none⟩,
    ⟨none, .store 1 (.t 24) (.t 23), none⟩] [2, 3] [2, 3, 11900, 12300])
  (.seq (.reg [⟨some 25, .load true 7 (.t 3), none⟩,
    ⟨none, .store 7 (.t 2) (.t 25), none⟩] [2] [2, 11900, 12300])
  (.ret)))))))))
def laws_toBox.m : Fn := { np := 1, body := laws_toBox.b, res := [.cell 2 true 7] }
def laws_toBox.k (M : Nat → Option Body) : Prop := M 18 = some (.code laws_toBox.m) ∧ laws_toIntS.k M ∧ laws_toStamp.k M ∧ laws_toMailS.k M
def laws_szRegS.b : C := .seq (.reg [⟨some 4, .mv (.k (.int .i64 0)), none⟩] [0, 1] [])
  (.seq (.reg [⟨some 5, .mv (.t 1), none⟩,
    ⟨some 6, .mv (.t 0), none⟩,
    ⟨some 7, .len (.t 6), none⟩,
    ⟨some 8, .bin .sub (.t 5) (.t 7), none⟩,
    ⟨some 1, .mv (.t 8), none⟩] [1] [])
  (.seq (.seq (.reg [⟨some 9, .mv (.t 1), none⟩,
    ⟨some 10, .bin .lss (.t 9) (.k (.int .i64 0)), none⟩] [1, 10] [])
  (.cond (.t 10) (.seq (.reg [⟨some 4, .mv (.k (.int .i64 (-1))), none⟩] [4] [])
  (.ret)) (.skip)))
  (.seq (.reg [⟨some 11, .mv (.t 1), none⟩,
    ⟨some 4, .mv (.t 11), none⟩] [4] [])
  (.ret))))
def laws_szRegS.m : Fn := { np := 2, body := laws_szRegS.b, res := [.tmp 4] }
def laws_szRegS.k (M : Nat → Option Body) : Prop := M 250 = some (.code laws_szRegS.m)
def laws_szMail.b : C := .seq (.reg [⟨some 2, .box (.t 0), none⟩,
    ⟨some 4, .mv (.k (.int .i64 0)), none⟩] [1, 2] [2])
  (.seq (.reg [⟨some 5, .faddr 2 (.t 2), none⟩,
    ⟨some 6, .load false 1 (.t 5), none⟩,
    ⟨some 7, .mv (.t 1), none⟩,
    ⟨some 8, .call 250 [.t 6, .t 7] [] [], none⟩,
    ⟨some 1, .mv (.t 8), none⟩] [1, 2] [2])
  (.seq (.seq (.reg [⟨some 9, .mv (.t 1), none⟩,
    ⟨some 10, .bin .lss (.t 9) (.k (.int .i64 0)), none⟩] [1, 2, 10] [2])
  (.cond (.t 10) (.seq (.reg [⟨some 4, .mv (.k (.int .i64 (-1))), none⟩] [4] [])
  (.ret)) (.skip)))
  (.seq (.reg [⟨some 11, .mv (.t 1), none⟩,
    ⟨some 12, .faddr 3 (.t 2), none⟩,
    ⟨some 13, .load false 1 (.t 12), none⟩,
    ⟨some 14, .slen (.t 13), none⟩,
    ⟨some 15, .bin .sub (.t 11) (.t 14), none⟩,
    ⟨some 1, .mv (.t 15), none⟩] [1] [])
  (.seq (.seq (.reg [⟨some 16, .mv (.t 1), none⟩,
    ⟨some 17, .bin .lss (.t 16) (.k (.int .i64 0)), none⟩] [1, 17] [])
  (.cond (.t 17) (.seq (.reg [⟨some 4, .mv (.k (.int .i64 (-1))), none⟩] [4] [])
  (.ret)) (.skip)))
  (.seq (.reg [⟨some 18, .mv (.t 1), none⟩,
    ⟨some 4, .mv (.t 18), none⟩] [4] [])
  (.ret))))))
def laws_szMail.m : Fn := { np := 2, body := laws_szMail.b, res := [.tmp 4] }
def laws_szMail.k (M : Nat → Option Body) : Prop := M 208 = some (.code laws_szMail.m) ∧ laws_szRegS.k M
def laws_szMailS.l0 : C := .seq (.seq (.reg [⟨some 12, .mv (.t 5), none⟩,
    ⟨some 13, .mv (.t 0), none⟩,
    ⟨some 14, .len (.t 13), none⟩,
    ⟨some 15, .bin .lss (.t 12) (.t 14), none⟩] [0, 1, 5, 15] [])
  (.cond (.t 15) (.skip) (.exit 0)))
  (.seq (.block 1 (.seq (.reg [⟨some 18, .mv (.t 0), none⟩,
    ⟨some 19, .mv (.t 5), none⟩,
    ⟨some 20, .iaddr 4 (.t 18) (.t 19), none⟩,
    ⟨some 21, .load true 4 (.t 20), none⟩,
    ⟨some 22, .mv (.t 1), none⟩,
    ⟨some 23, .call 208 [.t 21, .t 22] [] [], none⟩,
    ⟨some 1, .mv (.t 23), none⟩] [0, 1, 5] [])
  (.seq (.reg [⟨some 24, .mv (.t 1), none⟩,
    ⟨some 25, .bin .lss (.t 24) (.k (.int .i64 0)), none⟩] [0, 1, 5, 25] [])
  (.cond (.t 25) (.seq (.reg [⟨some 4, .mv (.k (.int .i64 (-1))), none⟩] [4] [])
  (.ret)) (.skip)))))
  (.reg [⟨some 16, .mv (.t 5), none⟩,
    ⟨some 17, .bin .add (.t 16) (.k (.int .i64 1)), none⟩,
    ⟨some 5, .mv (.t 17), none⟩] [0, 1, 5] []))
def laws_szMailS.b : C := .seq (.reg [⟨some 4, .mv (.k (.int .i64 0)), none⟩] [0, 1] [])
  (.seq (.reg [⟨some 6, .mv (.t 1), none⟩,
    ⟨some 7, .mv (.t 0), none⟩,
    ⟨some 8, .len (.t 7), none⟩,
    ⟨some 9, .bin .sub (.t 6) (.t 8), none⟩,
    ⟨some 1, .mv (.t 9), none⟩] [0, 1] [])
  (.seq (.seq (.reg [⟨some 10, .mv (.t 1), none⟩,
    ⟨some 11, .bin .lss (.t 10) (.k (.int .i64 0)), none⟩] [0, 1, 11] [])
  (.cond (.t 11) (.seq (.reg [⟨some 4, .mv (.k (.int .i64 (-1))), none⟩] [4] [])
  (.ret)) (.skip)))
  (.seq (.seq (.reg [⟨some 5, .mv (.k (.int .i64 0)), none⟩] [0, 1, 5] [])
  (.block 0 (.loop laws_szMailS.l0)))
  (.seq (.reg [⟨some 26, .mv (.t 1), none⟩,
    ⟨some 4, .mv (.t 26), none⟩] [4] [])
  (.ret)))))
def laws_szMailS.m : Fn := { np := 2, body := laws_szMailS.b, res := [.tmp 4] }
def laws_szMailS.k (M : Nat → Option Body) : Prop := M 107 = some (.code laws_szMailS.m) ∧ laws_szMail.k M
def laws_szBox.b : C := .seq (.reg [⟨some 2, .box (.t 0), none⟩,
    ⟨some 4, .mv (.k (.int .i64 0)), none⟩] [1, 2] [2])
  (.seq (.reg [⟨some 5, .mv (.t 1), none⟩,
    ⟨some 6, .faddr 1 (.t 2), none⟩,
    ⟨some 7, .load false 1 (.t 6), none⟩,
    ⟨some 8, .slen (.t 7), none⟩,
    ⟨some 9, .bin .sub (.t 5) (.t 8), none⟩,
    ⟨some 1, .mv (.t 9), none⟩] [1, 2] [2])
  (.seq (.seq (.reg [⟨some 10, .mv (.t 1), none⟩,
    ⟨some 11, .bin .lss (.t 10) (.k (.int .i64 0)), none⟩] [1, 2, 11] [2])
  (.cond (.t 11) (.seq (.reg [⟨some 4, .mv (.k (.int .i64 (-1))), none⟩] [4] [])
  (.ret)) (.skip)))
  (.seq (.reg [⟨some 12, .faddr 5 (.t 2), none⟩,
    ⟨some 13, .load false 1 (.t 12), none⟩,
    ⟨some 14, .mv (.t 1), none⟩,
    ⟨some 15, .call 107 [.t 13, .t 14] [] [], none⟩,
    ⟨some 1, .mv (.t 15), none⟩] [1, 2] [2])
  (.seq (.seq (.reg [⟨some 16, .mv (.t 1), none⟩,
    ⟨some 17, .bin .lss (.t 16) (.k (.int .i64 0)), none⟩] [1, 2, 17] [2])
  (.cond (.t 17) (.seq (.reg [⟨some 4, .mv (.k (.int .i64 (-1))), none⟩] [4] [])
  (.ret)) (.skip)))
  (.seq (.reg [⟨some 18, .faddr 6 (.t 2), none⟩,
    ⟨some 19, .load false 1 (.t 18), none⟩,
    ⟨some 20, .mv (.t 1), none⟩,
    ⟨some 21, .call 108 [.t 19, .t 20] [] [], none⟩,
    ⟨some 1, .mv (.t 21), none⟩] [1] [])
  (.seq (.seq (.reg [⟨some 22, .mv (.t 1), none⟩,
    ⟨some 23, .bin .lss (.t 22) (.k (.int .i64 0)), none⟩] [1, 23] [])
  (.cond (.t 23) (.seq (.reg [⟨some 4, .mv (.k (.int .i64 (-1))), none⟩] [4] [])
  (.ret)) (.skip)))
  (.seq (.reg [⟨some 24, .mv (.t 1), none⟩,
    ⟨some 4, .mv (.t 24), none⟩] [4] [])
  (.ret))))))))
def laws_szBox.m : Fn := { np := 2, body := laws_szBox.b, res := [.tmp 4] }
def laws_szBox.k (M : Nat → Option Body) : Prop := M 17 = some (.code laws_szBox.m) ∧ laws_szMailS.k M ∧ laws_szIntS.k M
def laws_eqStamp.b : C := .seq (.reg [⟨some 2, .box (.t 0), none⟩,
    ⟨some 3, .box (.t 1), none⟩,
    ⟨some 4, .mv (.k (.bool false)), none⟩] [2, 3] [2, 3])
  (.seq (.seq (.reg [⟨some 5, .faddr 0 (.t 2), none⟩,
    ⟨some 6, .load false 1 (.t 5), none⟩,
    ⟨some 7, .faddr 0 (.t 3), none⟩,
    ⟨some 8, .load false 1 (.t 7), none⟩,
    ⟨some 9, .bin .neq (.t 6) (.t 8), none⟩] [2, 3, 9] [2, 3])
  (.cond (.t 9) (.seq (.reg [⟨some 4, .mv (.k (.bool false)), none⟩] [4] [])
  (.ret)) (.skip)))
  (.seq (.seq (.reg [⟨some 10, .faddr 1 (.t 2), none⟩,
    ⟨some 11, .load false 1 (.t 10), none⟩,
    ⟨some 12, .faddr 1 (.t 3), none⟩,
    ⟨some 13, .load false 1 (.t 12), none⟩,
    ⟨some 14, .bin .neq (.t 11) (.t 13), none⟩] [14] [])
  (.cond (.t 14) (.seq (.reg [⟨some 4, .mv (.k (.bool false)), none⟩] [4] [])
  (.ret)) (.skip)))
  (.seq (.reg [⟨some 4, .mv (.k (.bool true)), none⟩] [4] [])
  (.ret))))
def laws_eqStamp.m : Fn := { np := 2, body := laws_eqStamp.b, res := [.tmp 4] }
def laws_eqStamp.k (M : Nat → Option Body) : Prop := M 111 = some (.code laws_eqStamp.m)
def laws_eqReg.b : C := .seq (.reg [⟨some 2, .box (.t 0), none⟩,
    ⟨some 3, .box (.t 1), none⟩,
    ⟨some 4, .mv (.k (.bool false)), none⟩] [2, 3] [2, 3])
  (.seq (.seq (.reg [⟨some 5, .faddr 0 (.t 2), none⟩,
    ⟨some 6, .load false 1 (.t 5), none⟩,
    ⟨some 7, .faddr 0 (.t 3), none⟩,
    ⟨some 8, .load false 1 (.t 7), none⟩,
    ⟨some 9, .bin .neq (.t 6) (.t 8), none⟩] [2, 3, 9] [2, 3])
  (.cond (.t 9) (.seq (.reg [⟨some 4, .mv (.k (.bool false)), none⟩] [4] [])
  (.ret)) (.skip)))
  (.seq (.seq (.reg [⟨some 10, .faddr 1 (.t 2), none⟩,
    ⟨some 11, .load true 2 (.t 10), none⟩,
    ⟨some 12, .faddr 1 (.t 3), none⟩,
    ⟨some 13, .load true 2 (.t 12), none⟩,
    ⟨some 14, .call 111 [.t 11, .t 13] [] [], none⟩,
    ⟨some 15, .not (.t 14), none⟩] [15] [])
  (.cond (.t 15) (.seq (.reg [⟨some 4, .mv (.k (.bool false)), none⟩] [4] [])
  (.ret)) (.skip)))
  (.seq (.reg [⟨some 4, .mv (.k (.bool true)), none⟩] [4] [])
  (.ret))))
def laws_eqReg.m : Fn := { np := 2, body := laws_eqReg.b, res := [.tmp 4] }
def laws_eqReg.k (M : Nat → Option Body) : Prop := M 289 = some (.code laws_eqReg.m) ∧ laws_eqStamp.k M
def laws_eqRegS.l0 : C := .seq (.seq (.reg [⟨some 11, .mv (.t 5), none⟩,
    ⟨some 12, .mv (.t 0), none⟩,
    ⟨some 13, .len (.t 12), none⟩,
    ⟨some 14, .bin .lss (.t 11) (.t 13), none⟩] [0, 1, 5, 14] [])
  (.cond (.t 14) (.skip) (.exit 0)))
  (.seq (.block 1 (.seq (.regd [⟨some 17, .mv (.t 0), none⟩,
    ⟨some 18, .mv (.t 5), none⟩,
    ⟨some 19, .iaddr 3 (.t 17) (.t 18), none⟩,
    ⟨some 20, .load true 3 (.t 19), none⟩,
    ⟨some 21, .mv (.t 1), none⟩,
    ⟨some 22, .mv (.t 5), none⟩,
    ⟨some 23, .iaddr 3 (.t 21) (.t 22), none⟩,
    ⟨some 24, .load true 3 (.t 23), none⟩,
    ⟨some 25, .call 289 [.t 20, .t 24] [] [], none⟩,
    ⟨some 26, .not (.t 25), none⟩] [[], [], [0, 1], [0, 1, 2], [], [], [4, 5], [4, 5, 6], [0, 1, 2, 3, 4, 5, 6, 7], [0, 1, 2, 3, 4, 5, 6, 7, 8]] [0, 1, 5, 26] [])
  (.cond (.t 26) (.seq (.reg [⟨some 4, .mv (.k (.bool false)), none⟩] [4] [])
  (.ret)) (.skip))))
  (.reg [⟨some 15, .mv (.t 5), none⟩,
    ⟨some 16, .bin .add (.t 15) (.k (.int .i64 1)), none⟩,
    ⟨some 5, .mv (.t 16), none⟩] [0, 1, 5] []))
def laws_eqRegS.b : C := .seq (.reg [⟨some 4, .mv (.k (.bool false)), none⟩] [0, 1] [])
  (.seq (.seq (.reg [⟨some 6, .mv (.t 0), none⟩,
    ⟨some 7, .len (.t 6), none⟩,
    ⟨some 8, .mv (.t 1), none⟩,
    ⟨some 9, .len (.t 8), none⟩,
    ⟨some 10, .bin .neq (.t 7) (.t 9), none⟩] [0, 1, 10] [])
  (.cond (.t 10) (.seq (.reg [⟨some 4, .mv (.k (.bool false)), none⟩] [4] [])
  (.ret)) (.skip)))
  (.seq (.seq (.reg [⟨some 5, .mv (.k (.int .i64 0)), none⟩] [0, 1, 5] [])
  (.block 0 (.loop laws_eqRegS.l0)))
  (.seq (.reg [⟨some 4, .mv (.k (.bool true)), none⟩] [4] [])
  (.ret))))
def laws_eqRegS.m : Fn := { np := 2, body := laws_eqRegS.b, res := [.tmp 4] }
def laws_eqRegS.k (M : Nat → Option Body) : Prop := M 252 = some (.code laws_eqRegS.m) ∧ laws_eqReg.k M
def laws_eqMail.b : C := .seq (.reg [⟨some 2, .box (.t 0), none⟩,
    ⟨some 3, .box (.t 1), none⟩,
    ⟨some 4, .mv (.k (.bool false)), none⟩] [2, 3] [2, 3])
  (.seq (.seq (.reg [⟨some 5, .faddr 0 (.t 2), none⟩,
    ⟨some 6, .load false 1 (.t 5), none⟩,
    ⟨some 7, .faddr 0 (.t 3), none⟩,
    ⟨some 8, .load false 1 (.t 7), none⟩,
    ⟨some 9, .bin .neq (.t 6) (.t 8), none⟩] [2, 3, 9] [2, 3])
  (.cond (.t 9) (.seq (.reg [⟨some 4, .mv (.k (.bool false)), none⟩] [4] [])
  (.ret)) (.skip)))
  (.seq (.seq (.reg [⟨some 10, .faddr 1 (.t 2), none⟩,
    ⟨some 11, .load false 1 (.t 10), none⟩,
    ⟨some 12, .faddr 1 (.t 3), none⟩,
    ⟨some 13, .load false 1 (.t 12), none⟩,
    ⟨some 14, .bin .neq (.t 11) (.t 13), none⟩] [2, 3, 14] [2, 3])
  (.cond (.t 14) (.seq (.reg [⟨some 4, .mv (.k (.bool false)), none⟩] [4] [])
  (.ret)) (.skip)))
  (.seq (.seq (.reg [⟨some 15, .faddr 2 (.t 2), none⟩,
    ⟨some 16, .load false 1 (.t 15), none⟩,
    ⟨some 17, .faddr 2 (.t 3), none⟩,
    ⟨some 18, .load false 1 (.t 17), none⟩,
    ⟨some 19, .call 252 [.t 16, .t 18] [] [], none⟩,
    ⟨some 20, .not (.t 19), none⟩] [2, 3, 20] [2, 3])
  (.cond (.t 20) (.seq (.reg [⟨some 4, .mv (.k (.bool false)), none⟩] [4] [])
  (.ret)) (.skip)))
  (.seq (.seq (.reg [⟨some 21, .faddr 3 (.t 2), none⟩,
    ⟨some 22, .load false 1 (.t 21), none⟩,
    ⟨some 23, .faddr 3 (.t 3), none⟩,
    ⟨some 24, .load false 1 (.t 23), none⟩,
    ⟨some 25, .bin .neq (.t 22) (.t 24), none⟩] [25] [])
  (.cond (.t 25) (.seq (.reg [⟨some 4, .mv (.k (.bool false)), none⟩] [4] [])
  (.ret)) (.skip)))
  (.seq (.reg [⟨some 4, .mv (.k (.bool true)), none⟩] [4] [])
  (.ret))))))
def laws_eqMail.m : Fn := { np := 2, body := laws_eqMail.b, res := [.tmp 4] }
def laws_eqMail.k (M : Nat → Option Body) : Prop := M 210 = some (.code laws_eqMail.m) ∧ laws_eqRegS.k M
def laws_eqMailS.l0 : C := .seq (.seq (.reg [⟨some 11, .mv (.t 5), none⟩,
    ⟨some 12, .mv (.t 0), none⟩,
    ⟨some 13, .len (.t 12), none⟩,
    ⟨some 14, .bin .lss (.t 11) (.t 13), none⟩] [0, 1, 5, 14] [])
  (.cond (.t 14) (.skip) (.exit 0)))
  (.seq (.block 1 (.seq (.regd [⟨some 17, .mv (.t 0), none⟩,
    ⟨some 18, .mv (.t 5), none⟩,
    ⟨some 19, .iaddr 4 (.t 17) (.t 18), none⟩,
    ⟨some 20, .load true 4 (.t 19), none⟩,
    ⟨some 21, .mv (.t 1), none⟩,
    ⟨some 22, .mv (.t 5), none⟩,
    ⟨some 23, .iaddr 4 (.t 21) (.t 22), none⟩,
    ⟨some 24, .load true 4 (.t 23), none⟩,
    ⟨some 25, .call 210 [.t 20, .t 24] [] [], none⟩,
    ⟨some 26, .not (.t 25), none⟩] [[], [], [0, 1], [0, 1, 2], [], [], [4, 5], [4, 5, 6], [0, 1, 2, 3, 4, 5, 6, 7], [0, 1, 2, 3, 4, 5, 6, 7, 8]] [0, 1, 5, 26] [])
  (.cond (.t 26) (.seq (.reg [⟨some 4, .mv (.k (.bool false)), none⟩] [4] [])
  (.ret)) (.skip))))
  (.reg [⟨some 15, .mv (.t 5), none⟩,
    ⟨some 16, .bin .add (.t 15) (.k (.int .i64 1)), none⟩,
    ⟨some 5, .mv (.t 16), none⟩] [0, 1, 5] []))
def laws_eqMailS.b : C := .seq (.reg [⟨some 4, .mv (.k (.bool false)), none⟩] [0, 1] [])
  (.seq (.seq (.reg [⟨some 6, .mv (.t 0), none⟩,
    ⟨some 7, .len (.t 6), none⟩,
    ⟨some 8, .mv (.t 1), none⟩,
    ⟨some 9, .len (.t 8), none⟩,
    ⟨some 10, .bin .neq (.t 7) (.t 9), none⟩] [0, 1, 10] [])
  (.cond (.t 10) (.seq (.reg [⟨some 4, .mv (.k (.bool false)), none⟩] [4] [])
  (.ret)) (.skip)))
  (.seq (.seq (.reg [⟨some 5, .mv (.k (.int .i64 0)), none⟩] [0, 1, 5] [])
  (.block 0 (.loop laws_eqMailS.l0)))
  (.seq (.reg [⟨some 4, .mv (.k (.bool true)), none⟩] [4] [])
  (.ret))))
def laws_eqMailS.m : Fn := { np := 2, body := laws_eqMailS.b, res := [.tmp 4] }
def laws_eqMailS.k (M : Nat → Option Body) : Prop := M 112 = some (.code laws_eqMailS.m) ∧ laws_eqMail.k M
def laws_eqBox.b : C := .seq (.reg [⟨some 2, .box (.t 0), none⟩,
    ⟨some 3, .box (.t 1), none⟩,
    ⟨some 4, .mv (.k (.bool false)), none⟩] [2, 3] [2, 3])
  (.seq (.seq (.reg [⟨some 5, .faddr 0 (.t 2), none⟩,
    ⟨some 6, .load false 1 (.t 5), none⟩,
    ⟨some 7, .faddr 0 (.t 3), none⟩,
    ⟨some 8, .load false 1 (.t 7), none⟩,
    ⟨some 9, .bin .neq (.t 6) (.t 8), none⟩] [2, 3, 9] [2, 3])
  (.cond (.t 9) (.seq (.reg [⟨some 4, .mv (.k (.bool false)), none⟩] [4] [])
  (.ret)) (.skip)))
  (.seq (.seq (.reg [⟨some 10, .faddr 1 (.t 2), none⟩,
    ⟨some 11, .load false 1 (.t 10), none⟩,
    ⟨some 12, .faddr 1 (.t 3), none⟩,
    ⟨some 13, .load false 1 (.t 12), none⟩,
    ⟨some 14, .bin .neq (.t 11) (.t 13), none⟩] [2, 3, 14] [2, 3])
  (.cond (.t 14) (.seq (.reg [⟨some 4, .mv (.k (.bool false)), none⟩] [4] [])
  (.ret)) (.skip)))
  (.seq (.seq (.reg [⟨some 15, .faddr 2 (.t 2), none⟩,
    ⟨some 16, .load true 2 (.t 15), none⟩,
    ⟨some 17, .faddr 2 (.t 3), none⟩,
    ⟨some 18, .load true 2 (.t 17), none⟩,
    ⟨some 19, .call 111 [.t 16, .t 18] [] [], none⟩,
    ⟨some 20, .not (.t 19), none⟩] [2, 3, 20] [2, 3])
  (.cond (.t 20) (.seq (.reg [⟨some 4, .mv (.k (.bool false)), none⟩] [4] [])
  (.ret)) (.skip)))
  (.seq (.seq (.reg [⟨some 21, .faddr 4 (.t 2), none⟩,
    ⟨some 22, .load false 1 (.t 21), none⟩,
    ⟨some 23, .faddr 4 (.t 3), none⟩,
    ⟨some 24, .load false 1 (.t 23), none⟩,
    ⟨some 25, .bin .neq (.t 22) (.t 24), none⟩] [2, 3, 25] [2, 3])
  (.cond (.t 25) (.seq (.reg [⟨some 4, .mv (.k (.bool false)), none⟩] [4] [])
  (.ret)) (.skip)))
  (.seq (.seq (.reg [⟨some 26, .faddr 5 (.t 2), none⟩,
    ⟨some 27, .load false 1 (.t 26), none⟩,
    ⟨some 28, .faddr 5 (.t 3), none⟩,
    ⟨some 29, .load false 1 (.t 28), none⟩,
    ⟨some 30, .call 112 [.t 27, .t 29] [] [], none⟩,
    ⟨some 31, .not (.t 30), none⟩] [2, 3, 31] [2, 3])
  (.cond (.t 31) (.seq (.reg [⟨some 4, .mv (.k (.bool false)), none⟩] [4] [])
  (.ret)) (.skip)))
  (.seq (.seq (.reg [⟨some 32, .faddr 6 (.t 2), none⟩,
    ⟨some 33, .load false 1 (.t 32), none⟩,
    ⟨some 34, .faddr 6 (.t 3), none⟩,
    ⟨some 35, .load false 1 (.t 34), none⟩,
    ⟨some 36, .call 45 [.t 33, .t 35] [] [], none⟩,
    ⟨some 37, .not (.t 36), none⟩] [37] [])
  (.cond (.t 37) (.seq (.reg [⟨some 4, .mv (.k (.bool false)), none⟩] [4] [])
  (.ret)) (.skip)))
  (.seq (.reg [⟨some 4, .mv (.k (.bool true)), none⟩] [4] [])
  (.ret))))))))
def laws_eqBox.m : Fn := { np := 2, body := laws_eqBox.b, res := [.tmp 4] }
def laws_eqBox.k (M : Nat → Option Body) : Prop := M 21 = some (.code laws_eqBox.m) ∧ laws_eqIntS.k M ∧ laws_eqStamp.k M ∧ laws_eqMailS.k M
end Mx

/-
  Small codes: spec.MailAt, slices.IndexFunc[[]impl.Mail,impl.Mail], impl.MailAt$1, impl.MailAt, spec.Holds, impl.Holds, laws.FnExactHolds, spec.KeepsUid, impl.KeepsUid, laws.FnExactKeepsUid.
-/
namespace Mx
open Go
def spec_MailAt.l0 : C := .seq (.seq (.reg [⟨some 6, .mv (.t 5), none⟩,
    ⟨some 7, .faddr 5 (.t 2), none⟩,
    ⟨some 8, .load false 1 (.t 7), none⟩,
    ⟨some 9, .len (.t 8), none⟩,
    ⟨some 10, .bin .lss (.t 6) (.t 9), none⟩] [1, 2, 5, 10] [2])
  (.cond (.t 10) (.skip) (.exit 0)))
  (.seq (.block 1 (.seq (.reg [⟨some 13, .faddr 5 (.t 2), none⟩,
    ⟨some 14, .load false 1 (.t 13), none⟩,
    ⟨some 15, .mv (.t 5), none⟩,
    ⟨some 16, .iaddr 4 (.t 14) (.t 15), none⟩,
    ⟨some 17, .faddr 0 (.t 16), none⟩,
    ⟨some 18, .load false 1 (.t 17), none⟩,
    ⟨some 19, .mv (.t 1), none⟩,
    ⟨some 20, .bin .eql (.t 18) (.t 19), none⟩] [1, 2, 5, 20] [2])
  (.cond (.t 20) (.seq (.reg [⟨some 21, .mv (.t 5), none⟩,
    ⟨some 4, .mv (.t 21), none⟩] [4] [])
  (.ret)) (.skip))))
  (.reg [⟨some 11, .mv (.t 5), none⟩,
    ⟨some 12, .bin .add (.t 11) (.k (.int .i64 1)), none⟩,
    ⟨some 5, .mv (.t 12), none⟩] [1, 2, 5] [2]))
def spec_MailAt.b : C := .seq (.reg [⟨some 2, .box (.t 0), none⟩,
    ⟨some 4, .mv (.k (.int .i64 0)), none⟩] [1, 2] [2])
  (.seq (.seq (.reg [⟨some 5, .mv (.k (.int .i64 0)), none⟩] [1, 2, 5] [2])
  (.block 0 (.loop spec_MailAt.l0)))
  (.seq (.reg [⟨some 4, .mv (.k (.int .i64 (-1))), none⟩] [4] [])
  (.ret)))
def spec_MailAt.m : Fn := { np := 2, body := spec_MailAt.b, res := [.tmp 4] }
def spec_MailAt.k (M : Nat → Option Body) : Prop := M 91 = some (.code spec_MailAt.m)
def slices_IndexFunc_impl_Mail_impl_Mail.l0 : C := .seq (.reg [⟨some 9, .bin .lss (.t 8) (.t 7), none⟩] [0, 1, 7, 8, 9] [])
  (.seq (.cond (.t 9) (.skip) (.exit 0))
  (.seq (.block 1 (.seq (.reg [⟨some 10, .mv (.t 8), none⟩,
    ⟨some 5, .mv (.t 10), none⟩] [0, 1, 5, 7, 8] [])
  (.seq (.reg [⟨some 11, .mv (.t 1), none⟩,
    ⟨some 12, .mv (.t 0), none⟩,
    ⟨some 13, .mv (.t 5), none⟩,
    ⟨some 14, .iaddr 4 (.t 12) (.t 13), none⟩,
    ⟨some 15, .load true 4 (.t 14), none⟩,
    ⟨some 16, .callv (.t 11) [.t 15], none⟩] [0, 1, 5, 7, 8, 16] [])
  (.cond (.t 16) (.seq (.reg [⟨some 17, .mv (.t 5), none⟩,
    ⟨some 4, .mv (.t 17), none⟩] [4] [])
  (.ret)) (.skip)))))
  (.reg [⟨some 18, .bin .add (.t 8) (.k (.int .i64 1)), none⟩,
    ⟨some 8, .mv (.t 18), none⟩] [0, 1, 7, 8] [])))
def slices_IndexFunc_impl_Mail_impl_Mail.b : C := .seq (.reg [⟨some 4, .mv (.k (.int .i64 0)), none⟩] [0, 1] [])
  (.seq (.seq (.reg [⟨some 6, .mv (.t 0), none⟩,
    ⟨some 7, .len (.t 6), none⟩,
    ⟨some 8, .mv (.k (.int .i64 0)), none⟩] [0, 1, 7, 8] [])
  (.block 0 (.loop slices_IndexFunc_impl_Mail_impl_Mail.l0)))
  (.seq (.reg [⟨some 4, .mv (.k (.int .i64 (-1))), none⟩] [4] [])
  (.ret)))
def slices_IndexFunc_impl_Mail_impl_Mail.m : Fn := { np := 2, body := slices_IndexFunc_impl_Mail_impl_Mail.b, res := [.tmp 4] }
def slices_IndexFunc_impl_Mail_impl_Mail.k (M : Nat → Option Body) : Prop := M 161 = some (.code slices_IndexFunc_impl_Mail_impl_Mail.m)
def impl_MailAt_1.b : C := .seq (.reg [⟨some 2, .box (.t 0), none⟩,
    ⟨some 3, .mv (.k (.bool false)), none⟩] [1, 2] [2])
  (.seq (.reg [⟨some 4, .faddr 0 (.t 2), none⟩,
    ⟨some 5, .load false 1 (.t 4), none⟩,
    ⟨some 6, .load false 1 (.t 1), none⟩,
    ⟨some 7, .bin .eql (.t 5) (.t 6), none⟩,
    ⟨some 3, .mv (.t 7), none⟩] [3] [])
  (.ret))
def impl_MailAt_1.m : Fn := { np := 2, body := impl_MailAt_1.b, res := [.tmp 3] }
def impl_MailAt_1.k (M : Nat → Option Body) : Prop := M 160 = some (.code impl_MailAt_1.m)
def impl_MailAt.b : C := .seq (.reg [⟨some 2, .box (.t 0), none⟩,
    ⟨some 3, .box (.t 1), none⟩,
    ⟨some 4, .mv (.k (.int .i64 0)), none⟩] [2, 3] [2, 3])
  (.seq (.reg [⟨some 5, .faddr 5 (.t 2), none⟩,
    ⟨some 6, .load false 1 (.t 5), none⟩,
    ⟨some 7, .mkfn 160 [.t 3], none⟩,
    ⟨some 8, .call 161 [.t 6, .t 7] [] [], none⟩,
    ⟨some 4, .mv (.t 8), none⟩] [4] [])
  (.ret))
def impl_MailAt.m : Fn := { np := 2, body := impl_MailAt.b, res := [.tmp 4] }
def impl_MailAt.k (M : Nat → Option Body) : Prop := M 72 = some (.code impl_MailAt.m) ∧ impl_MailAt_1.k M ∧ slices_IndexFunc_impl_Mail_impl_Mail.k M
def spec_Holds.b : C := .seq (.reg [⟨some 2, .box (.t 0), none⟩,
    ⟨some 4, .mv (.k (.bool false)), none⟩] [1, 2] [2])
  (.seq (.reg [⟨some 5, .load true 7 (.t 2), none⟩,
    ⟨some 6, .mv (.t 1), none⟩,
    ⟨some 7, .call 91 [.t 5, .t 6] [] [], none⟩,
    ⟨some 8, .bin .geq (.t 7) (.k (.int .i64 0)), none⟩,
    ⟨some 4, .mv (.t 8), none⟩] [4] [])
  (.ret))
def spec_Holds.m : Fn := { np := 2, body := spec_Holds.b, res := [.tmp 4] }
def spec_Holds.k (M : Nat → Option Body) : Prop := M 19 = some (.code spec_Holds.m) ∧ spec_MailAt.k M
def impl_Holds.b : C := .seq (.reg [⟨some 2, .box (.t 0), none⟩,
    ⟨some 4, .mv (.k (.bool false)), none⟩] [1, 2] [2])
  (.seq (.reg [⟨some 5, .load true 7 (.t 2), none⟩,
    ⟨some 6, .mv (.t 1), none⟩,
    ⟨some 7, .call 72 [.t 5, .t 6] [] [], none⟩,
    ⟨some 8, .bin .geq (.t 7) (.k (.int .i64 0)), none⟩,
    ⟨some 4, .mv (.t 8), none⟩] [4] [])
  (.ret))
def impl_Holds.m : Fn := { np := 2, body := impl_Holds.b, res := [.tmp 4] }
def impl_Holds.k (M : Nat → Option Body) : Prop := M 20 = some (.code impl_Holds.m) ∧ impl_MailAt.k M
def laws_FnExactHolds.b : C := .seq (.reg [⟨some 2, .box (.t 0), none⟩,
    ⟨some 4, .mv (.k (.bool false)), none⟩] [1, 2] [2])
  (.seq (.reg [⟨some 5, .mv (.k (.int .i64 1048576)), none⟩] [1, 2, 5] [2])
  (.seq (.reg [⟨some 9, .load true 7 (.t 2), none⟩,
    ⟨some 10, .mv (.t 5), none⟩,
    ⟨some 11, .call 17 [.t 9, .t 10] [] [], none⟩,
    ⟨some 5, .mv (.t 11), none⟩] [1, 2, 5] [2])
  (.seq (.seq (.reg [⟨some 12, .mv (.t 5), none⟩,
    ⟨some 13, .bin .lss (.t 12) (.k (.int .i64 0)), none⟩] [1, 2, 13] [2])
  (.cond (.t 13) (.seq (.reg [⟨some 4, .mv (.k (.bool true)), none⟩] [4] [])
  (.ret)) (.skip)))
  (.seq (.reg [⟨some 14, .load true 7 (.t 2), none⟩,
    ⟨some 15, .call 18 [.t 14] [] [], none⟩,
    ⟨some 16, .mv (.t 1), none⟩,
    ⟨some 17, .call 19 [.t 15, .t 16] [] [], none⟩,
    ⟨some 6, .mv (.t 17), none⟩] [1, 2, 6] [2])
  (.seq (.reg [⟨some 18, .load true 7 (.t 2), none⟩,
    ⟨some 19, .call 18 [.t 18] [] [], none⟩,
    ⟨some 7, .alloc [.int .i64 0, .str ⟨#[]⟩, .int .i64 0, .int .i64 0, .int .i64 0, .nils 4, .nils 1], none⟩,
    ⟨none, .store 7 (.t 7) (.t 19), none⟩] [1, 2, 6, 7] [2, 7])
  (.seq (.reg [⟨some 20, .load true 7 (.t 7), none⟩,
    ⟨some 21, .mv (.t 1), none⟩,
    ⟨some 22, .call 20 [.t 20, .t 21] [] [], none⟩,
    ⟨some 8, .mv (.t 22), none⟩] [2, 6, 7, 8] [2, 7])
  (.seq (.seq (.reg [⟨some 23, .mv (.t 8), none⟩,
    ⟨some 24, .mv (.t 6), none⟩,
    ⟨some 25, .beq true (.t 23) (.t 24), none⟩] [2, 7, 25] [2, 7])
  (.cond (.t 25) (.seq (.reg [⟨some 4, .mv (.k (.bool false)), none⟩] [4] [])
  (.ret)) (.skip)))
  (.seq (.seq (.regd [⟨some 26, .load true 7 (.t 7), none⟩,
    ⟨some 27, .load true 7 (.t 2), none⟩,
    ⟨some 28, .call 18 [.t 27] [] [], none⟩,
    ⟨some 29, .call 21 [.t 26, .t 28] [] [], none⟩,
    ⟨some 30, .not (.t 29), none⟩] [[], [], [1], [0, 1, 2], [0, 1, 2, 3]] [30] [])
  (.cond (.t 30) (.seq (.reg [⟨some 4, .mv (.k (.bool false)), none⟩] [4] [])
  (.ret)) (.skip)))
  (.seq (.reg [⟨some 4, .mv (.k (.bool true)), none⟩] [4] [])
  (.ret))))))))))
def laws_FnExactHolds.m : Fn := { np := 2, body := laws_FnExactHolds.b, res := [.tmp 4] }
def laws_FnExactHolds.k (M : Nat → Option Body) : Prop := M 365 = some (.code laws_FnExactHolds.m) ∧ laws_szBox.k M ∧ laws_toBox.k M ∧ spec_Holds.k M ∧ impl_Holds.k M ∧ laws_eqBox.k M
def spec_KeepsUid.b : C := .seq (.reg [⟨some 3, .box (.t 0), none⟩,
    ⟨some 4, .box (.t 1), none⟩,
    ⟨some 6, .mv (.k (.bool false)), none⟩] [2, 3, 4] [3, 4])
  (.seq (.reg [⟨some 9, .load true 7 (.t 3), none⟩,
    ⟨some 10, .mv (.t 2), none⟩,
    ⟨some 11, .call 91 [.t 9, .t 10] [] [], none⟩,
    ⟨some 7, .mv (.t 11), none⟩] [2, 3, 4, 7] [3, 4])
  (.seq (.seq (.reg [⟨some 12, .mv (.t 7), none⟩,
    ⟨some 13, .bin .lss (.t 12) (.k (.int .i64 0)), none⟩] [2, 3, 4, 7, 13] [3, 4])
  (.cond (.t 13) (.seq (.reg [⟨some 6, .mv (.k (.bool false)), none⟩] [6] [])
  (.ret)) (.skip)))
  (.seq (.reg [⟨some 14, .load true 7 (.t 4), none⟩,
    ⟨some 15, .mv (.t 2), none⟩,
    ⟨some 16, .call 91 [.t 14, .t 15] [] [], none⟩,
    ⟨some 8, .mv (.t 16), none⟩] [3, 4, 7, 8] [3, 4])
  (.seq (.seq (.reg [⟨some 17, .mv (.t 8), none⟩,
    ⟨some 18, .bin .geq (.t 17) (.k (.int .i64 0)), none⟩] [3, 4, 7, 8, 18] [3, 4])
  (.cond (.t 18) (.seq (.regd [⟨some 19, .faddr 5 (.t 3), none⟩,
    ⟨some 20, .load false 1 (.t 19), none⟩,
    ⟨some 21, .mv (.t 7), none⟩,
    ⟨some 22, .iaddr 4 (.t 20) (.t 21), none⟩,
    ⟨some 23, .faddr 1 (.t 22), none⟩,
    ⟨some 24, .load false 1 (.t 23), none⟩,
    ⟨some 25, .faddr 5 (.t 4), none⟩,
    ⟨some 26, .load false 1 (.t 25), none⟩,
    ⟨some 27, .mv (.t 8), none⟩,
    ⟨some 28, .iaddr 4 (.t 26) (.t 27), none⟩,
    ⟨some 29, .faddr 1 (.t 28), none⟩,
    ⟨some 30, .load false 1 (.t 29), none⟩,
    ⟨some 31, .bin .eql (.t 24) (.t 30), none⟩,
    ⟨some 6, .mv (.t 31), none⟩] [[], [0], [], [0, 1, 2], [0, 1, 2, 3], [0, 1, 2, 3, 4], [], [6], [], [6, 7, 8], [6, 7, 8, 9], [6, 7, 8, 9, 10], [0, 1, 2, 3, 4, 5, 6, 7, 8, 9, 10, 11], [0, 1, 2, 3, 4, 5, 6, 7, 8, 9, 10, 11, 12]] [6] [])
  (.ret)) (.skip)))
  (.seq (.regd [⟨some 32, .faddr 5 (.t 3), none⟩,
    ⟨some 33, .load false 1 (.t 32), none⟩,
    ⟨some 34, .mv (.t 7), none⟩,
    ⟨some 35, .iaddr 4 (.t 33) (.t 34), none⟩,
    ⟨some 36, .faddr 1 (.t 35), none⟩,
    ⟨some 37, .load false 1 (.t 36), none⟩,
    ⟨some 38, .faddr 4 (.t 4), none⟩,
    ⟨some 39, .load false 1 (.t 38), none⟩,
    ⟨some 40, .bin .geq (.t 37) (.t 39), none⟩,
    ⟨some 6, .mv (.t 40), none⟩] [[], [0], [], [0, 1, 2], [0, 1, 2, 3], [0, 1, 2, 3, 4], [], [6], [0, 1, 2, 3, 4, 5, 6, 7], [0, 1, 2, 3, 4, 5, 6, 7, 8]] [6] [])
  (.ret))))))
def spec_KeepsUid.m : Fn := { np := 3, body := spec_KeepsUid.b, res := [.tmp 6] }
def spec_KeepsUid.k (M : Nat → Option Body) : Prop := M 22 = some (.code spec_KeepsUid.m) ∧ spec_MailAt.k M
def impl_KeepsUid.b : C := .seq (.reg [⟨some 3, .box (.t 0), none⟩,
    ⟨some 4, .box (.t 1), none⟩,
    ⟨some 6, .mv (.k (.bool false)), none⟩] [2, 3, 4] [3, 4])
  (.seq (.regd [⟨some 9, .load true 7 (.t 3), none⟩,
    ⟨some 10, .mv (.t 2), none⟩,
    ⟨some 11, .call 72 [.t 9, .t 10] [] [], none⟩,
    ⟨some 12, .load true 7 (.t 4), none⟩,
    ⟨some 13, .mv (.t 2), none⟩,
    ⟨some 14, .call 72 [.t 12, .t 13] [] [], none⟩,
    ⟨some 7, .mv (.t 11), none⟩,
    ⟨some 8, .mv (.t 14), none⟩] [[], [], [0, 1], [], [], [0, 1, 2, 3, 4], [0, 1, 2, 3, 4, 5], [0, 1, 2, 3, 4, 5, 6]] [3, 4, 7, 8] [3, 4])
  (.seq (.block 0 (.seq (.reg [⟨some 16, .mv (.t 7), none⟩,
    ⟨some 17, .bin .lss (.t 16) (.k (.int .i64 0)), none⟩,
    ⟨some 15, .mv (.t 17), none⟩] [3, 4, 7, 8, 15] [3, 4])
  (.cond (.t 15) (.seq (.reg [⟨some 6, .mv (.k (.bool false)), none⟩] [6] [])
  (.ret)) (.seq (.reg [⟨some 19, .mv (.t 8), none⟩,
    ⟨some 20, .bin .geq (.t 19) (.k (.int .i64 0)), none⟩,
    ⟨some 18, .mv (.t 20), none⟩] [3, 4, 7, 8, 18] [3, 4])
  (.cond (.t 18) (.seq (.regd [⟨some 21, .faddr 5 (.t 4), none⟩,
    ⟨some 22, .load false 1 (.t 21), none⟩,
    ⟨some 23, .mv (.t 8), none⟩,
    ⟨some 24, .iaddr 4 (.t 22) (.t 23), none⟩,
    ⟨some 25, .faddr 1 (.t 24), none⟩,
    ⟨some 26, .load false 1 (.t 25), none⟩,
    ⟨some 27, .faddr 5 (.t 3), none⟩,
    ⟨some 28, .load false 1 (.t 27), none⟩,
    ⟨some 29, .mv (.t 7), none⟩,
    ⟨some 30, .iaddr 4 (.t 28) (.t 29), none⟩,
    ⟨some 31, .faddr 1 (.t 30), none⟩,
    ⟨some 32, .load false 1 (.t 31), none⟩,
    ⟨some 33, .bin .eql (.t 26) (.t 32), none⟩,
    ⟨some 6, .mv (.t 33), none⟩] [[], [0], [], [0, 1, 2], [0, 1, 2, 3], [0, 1, 2, 3, 4], [], [6], [], [6, 7, 8], [6, 7, 8, 9], [6, 7, 8, 9, 10], [0, 1, 2, 3, 4, 5, 6, 7, 8, 9, 10, 11], [0, 1, 2, 3, 4, 5, 6, 7, 8, 9, 10, 11, 12]] [6] [])
  (.ret)) (.skip))))))
  (.seq (.regd [⟨some 34, .faddr 5 (.t 3), none⟩,
    ⟨some 35, .load false 1 (.t 34), none⟩,
    ⟨some 36, .mv (.t 7), none⟩,
    ⟨some 37, .iaddr 4 (.t 35) (.t 36), none⟩,
    ⟨some 38, .faddr 1 (.t 37), none⟩,
    ⟨some 39, .load false 1 (.t 38), none⟩,
    ⟨some 40, .faddr 4 (.t 4), none⟩,
    ⟨some 41, .load false 1 (.t 40), none⟩,
    ⟨some 42, .bin .geq (.t 39) (.t 41), none⟩,
    ⟨some 6, .mv (.t 42), none⟩] [[], [0], [], [0, 1, 2], [0, 1, 2, 3], [0, 1, 2, 3, 4], [], [6], [0, 1, 2, 3, 4, 5, 6, 7], [0, 1, 2, 3, 4, 5, 6, 7, 8]] [6] [])
  (.ret))))
def impl_KeepsUid.m : Fn := { np := 3, body := impl_KeepsUid.b, res := [.tmp 6] }
def impl_KeepsUid.k (M : Nat → Option Body) : Prop := M 23 = some (.code impl_KeepsUid.m) ∧ impl_MailAt.k M
def laws_FnExactKeepsUid.b : C := .seq (.reg [⟨some 3, .box (.t 0), none⟩,
    ⟨some 4, .box (.t 1), none⟩,
    ⟨some 6, .mv (.k (.bool false)), none⟩] [2, 3, 4] [3, 4])
  (.seq (.reg [⟨some 7, .mv (.k (.int .i64 1048576)), none⟩] [2, 3, 4, 7] [3, 4])
  (.seq (.reg [⟨some 12, .load true 7 (.t 3), none⟩,
    ⟨some 13, .mv (.t 7), none⟩,
    ⟨some 14, .call 17 [.t 12, .t 13] [] [], none⟩,
    ⟨some 7, .mv (.t 14), none⟩] [2, 3, 4, 7] [3, 4])
  (.seq (.seq (.reg [⟨some 15, .mv (.t 7), none⟩,
    ⟨some 16, .bin .lss (.t 15) (.k (.int .i64 0)), none⟩] [2, 3, 4, 7, 16] [3, 4])
  (.cond (.t 16) (.seq (.reg [⟨some 6, .mv (.k (.bool true)), none⟩] [6] [])
  (.ret)) (.skip)))
  (.seq (.reg [⟨some 17, .load true 7 (.t 4), none⟩,
    ⟨some 18, .mv (.t 7), none⟩,
    ⟨some 19, .call 17 [.t 17, .t 18] [] [], none⟩,
    ⟨some 7, .mv (.t 19), none⟩] [2, 3, 4, 7] [3, 4])
  (.seq (.seq (.reg [⟨some 20, .mv (.t 7), none⟩,
    ⟨some 21, .bin .lss (.t 20) (.k (.int .i64 0)), none⟩] [2, 3, 4, 21] [3, 4])
  (.cond (.t 21) (.seq (.reg [⟨some 6, .mv (.k (.bool true)), none⟩] [6] [])
  (.ret)) (.skip)))
  (.seq (.regd [⟨some 22, .load true 7 (.t 3), none⟩,
    ⟨some 23, .call 18 [.t 22] [] [], none⟩,
    ⟨some 24, .load true 7 (.t 4), none⟩,
    ⟨some 25, .call 18 [.t 24] [] [], none⟩,
    ⟨some 26, .mv (.t 2), none⟩,
    ⟨some 27, .call 22 [.t 23, .t 25, .t 26] [] [], none⟩,
    ⟨some 8, .mv (.t 27), none⟩] [[], [0], [], [0, 1, 2], [], [0, 1, 2, 3, 4], [0, 1, 2, 3, 4, 5]] [2, 3, 4, 8] [3, 4])
  (.seq (.reg [⟨some 28, .load true 7 (.t 3), none⟩,
    ⟨some 29, .call 18 [.t 28] [] [], none⟩,
    ⟨some 9, .alloc [.int .i64 0, .str ⟨#[]⟩, .int .i64 0, .int .i64 0, .int .i64 0, .nils 4, .nils 1], none⟩,
    ⟨none, .store 7 (.t 9) (.t 29), none⟩] [2, 3, 4, 8, 9] [3, 4, 9])
  (.seq (.reg [⟨some 30, .load true 7 (.t 4), none⟩,
    ⟨some 31, .call 18 [.t 30] [] [], none⟩,
    ⟨some 10, .alloc [.int .i64 0, .str ⟨#[]⟩, .int .i64 0, .int .i64 0, .int .i64 0, .nils 4, .nils 1], none⟩,
    ⟨none, .store 7 (.t 10) (.t 31), none⟩] [2, 3, 4, 8, 9, 10] [3, 4, 9, 10])
  (.seq (.reg [⟨some 32, .load true 7 (.t 9), none⟩,
    ⟨some 33, .load true 7 (.t 10), none⟩,
    ⟨some 34, .mv (.t 2), none⟩,
    ⟨some 35, .call 23 [.t 32, .t 33, .t 34] [] [], none⟩,
    ⟨some 11, .mv (.t 35), none⟩] [3, 4, 8, 9, 10, 11] [3, 4, 9, 10])
  (.seq (.seq (.reg [⟨some 36, .mv (.t 11), none⟩,
    ⟨some 37, .mv (.t 8), none⟩,
    ⟨some 38, .beq true (.t 36) (.t 37), none⟩] [3, 4, 9, 10, 38] [3, 4, 9, 10])
  (.cond (.t 38) (.seq (.reg [⟨some 6, .mv (.k (.bool false)), none⟩] [6] [])
  (.ret)) (.skip)))
  (.seq (.seq (.regd [⟨some 39, .load true 7 (.t 9), none⟩,
    ⟨some 40, .load true 7 (.t 3), none⟩,
    ⟨some 41, .call 18 [.t 40] [] [], none⟩,
    ⟨some 42, .call 21 [.t 39, .t 41] [] [], none⟩,
    ⟨some 43, .not (.t 42), none⟩] [[], [], [1], [0, 1, 2], [0, 1, 2, 3]] [4, 10, 43] [4, 10])
  (.cond (.t 43) (.seq (.reg [⟨some 6, .mv (.k (.bool false)), none⟩] [6] [])
  (.ret)) (.skip)))
  (.seq (.seq (.regd [⟨some 44, .load true 7 (.t 10), none⟩,
    ⟨some 45, .load true 7 (.t 4), none⟩,
    ⟨some 46, .call 18 [.t 45] [] [], none⟩,
    ⟨some 47, .call 21 [.t 44, .t 46] [] [], none⟩,
    ⟨some 48, .not (.t 47), none⟩] [[], [], [1], [0, 1, 2], [0, 1, 2, 3]] [48] [])
  (.cond (.t 48) (.seq (.reg [⟨some 6, .mv (.k (.bool false)), none⟩] [6] [])
  (.ret)) (.skip)))
  (.seq (.reg [⟨some 6, .mv (.k (.bool true)), none⟩] [6] [])
  (.ret))))))))))))))
def laws_FnExactKeepsUid.m : Fn := { np := 3, body := laws_FnExactKeepsUid.b, res := [.tmp 6] }
def laws_FnExactKeepsUid.k (M : Nat → Option Body) : Prop := M 366 = some (.code laws_FnExactKeepsUid.m) ∧ laws_szBox.k M ∧ laws_toBox.k M ∧ laws_eqBox.k M ∧ spec_KeepsUid.k M ∧ impl_KeepsUid.k M
end Mx

/-
  Small codes: impl.within, spec.l01In.
-/
namespace Mx
open Go
def impl_within.b : C := .seq (.reg [⟨some 6, .mv (.k (.bool false)), none⟩] [0, 1, 2] [])
  (.seq (.reg [⟨some 7, .mv (.t 0), none⟩,
    ⟨some 8, .mv (.t 1), none⟩,
    ⟨some 9, .bin .geq (.t 7) (.t 8), none⟩,
    ⟨some 10, .mv (.t 9), none⟩,
    ⟨some 11, .mv (.t 0), some (10, true)⟩,
    ⟨some 12, .mv (.t 2), some (10, true)⟩,
    ⟨some 13, .bin .leq (.t 11) (.t 12), some (10, true)⟩,
    ⟨some 14, .pick (.t 10) (.t 13) (.k (.bool false)), none⟩,
    ⟨some 6, .mv (.t 14), none⟩] [6] [])
  (.ret))
def impl_within.m : Fn := { np := 3, body := impl_within.b, res := [.tmp 6] }
def impl_within.k (M : Nat → Option Body) : Prop := M 101 = some (.code impl_within.m)
def spec_l01In.b : C := .seq (.reg [⟨some 6, .mv (.k (.bool false)), none⟩] [0, 1, 2] [])
  (.seq (.reg [⟨some 7, .mv (.t 0), none⟩,
    ⟨some 8, .mv (.t 1), none⟩,
    ⟨some 9, .bin .geq (.t 7) (.t 8), none⟩,
    ⟨some 10, .mv (.t 9), none⟩,
    ⟨some 11, .mv (.t 0), some (10, true)⟩,
    ⟨some 12, .mv (.t 2), some (10, true)⟩,
    ⟨some 13, .bin .leq (.t 11) (.t 12), some (10, true)⟩,
    ⟨some 14, .pick (.t 10) (.t 13) (.k (.bool false)), none⟩,
    ⟨some 6, .mv (.t 14), none⟩] [6] [])
  (.ret))
def spec_l01In.m : Fn := { np := 3, body := spec_l01In.b, res := [.tmp 6] }
def spec_l01In.k (M : Nat → Option Body) : Prop := M 98 = some (.code spec_l01In.m)
end Mx

/-
  Small codes: spec.l01Var, impl.VarText, impl.ShortText, spec.ReadVar, impl.ReadVar, spec.ReadShort, impl.ReadShort, impl.short, impl.vars.
-/
namespace Mx
open Go
def spec_l01Var.l0 : C := .seq (.seq (.reg [⟨some 5, .mv (.t 0), none⟩,
    ⟨some 6, .bin .gtr (.t 5) (.k (.int .i64 127)), none⟩] [0, 3, 6] [4, 13])
  (.cond (.t 6) (.skip) (.exit 0)))
  (.block 1 (.seq (.reg [⟨some 7, .mv (.t 3), none⟩,
    ⟨some 8, .mv (.t 0), none⟩,
    ⟨some 9, .bin .rem (.t 8) (.k (.int .i64 128)), none⟩,
    ⟨some 10, .bin .add (.t 9) (.k (.int .i64 128)), none⟩,
    ⟨some 11, .i2i .u8 (.t 10), none⟩,
    ⟨some 12, .bslice 1 1 [.int .u8 0] [(0, .t 11)], none⟩,
    ⟨some 13, .app 1 1 (.t 7) (.t 12), none⟩,
    ⟨some 3, .mv (.t 13), none⟩] [0, 3] [4, 13])
  (.reg [⟨some 14, .mv (.t 0), none⟩,
    ⟨some 15, .bin .quo (.t 14) (.k (.int .i64 128)), none⟩,
    ⟨some 0, .mv (.t 15), none⟩] [0, 3] [4, 13])))
def spec_l01Var.b : C := .seq (.reg [⟨some 2, .mv (.k (.str ⟨#[]⟩)), none⟩] [0] [])
  (.seq (.reg [⟨some 4, .bslice 1 0 [.int .u8 0] [], none⟩,
    ⟨some 3, .mv (.t 4), none⟩] [0, 3] [4, 13])
  (.seq (.block 0 (.loop spec_l01Var.l0))
  (.seq (.reg [⟨some 16, .mv (.t 3), none⟩,
    ⟨some 17, .mv (.t 0), none⟩,
    ⟨some 18, .i2i .u8 (.t 17), none⟩,
    ⟨some 19, .bslice 1 1 [.int .u8 0] [(0, .t 18)], none⟩,
    ⟨some 20, .app 1 1 (.t 16) (.t 19), none⟩,
    ⟨some 21, .b2s (.t 20), none⟩,
    ⟨some 2, .mv (.t 21), none⟩] [2] [])
  (.ret))))
def spec_l01Var.m : Fn := { np := 1, body := spec_l01Var.b, res := [.tmp 2] }
def spec_l01Var.k (M : Nat → Option Body) : Prop := M 99 = some (.code spec_l01Var.m)
def impl_VarText.l0 : C := .seq (.seq (.reg [⟨some 9, .mv (.t 0), none⟩,
    ⟨some 10, .bin .gtr (.t 9) (.k (.int .i64 127)), none⟩] [0, 4, 10] [8, 17])
  (.cond (.t 10) (.skip) (.exit 0)))
  (.block 1 (.seq (.reg [⟨some 11, .mv (.t 4), none⟩,
    ⟨some 12, .mv (.t 0), none⟩,
    ⟨some 13, .bin .and (.t 12) (.k (.int .i64 127)), none⟩,
    ⟨some 14, .bin .or (.t 13) (.k (.int .i64 128)), none⟩,
    ⟨some 15, .i2i .u8 (.t 14), none⟩,
    ⟨some 16, .bslice 1 1 [.int .u8 0] [(0, .t 15)], none⟩,
    ⟨some 17, .app 1 1 (.t 11) (.t 16), none⟩,
    ⟨some 4, .mv (.t 17), none⟩] [0, 4] [8, 17])
  (.reg [⟨some 18, .mv (.t 0), none⟩,
    ⟨some 19, .bin .shr (.t 18) (.k (.int .u64 7)), none⟩,
    ⟨some 0, .mv (.t 19), none⟩] [0, 4] [8, 17])))
def impl_VarText.b : C := .seq (.reg [⟨some 2, .mv (.k (.str ⟨#[]⟩)), none⟩,
    ⟨some 3, .mv (.k (.bool false)), none⟩] [0] [])
  (.seq (.seq (.reg [⟨some 5, .mv (.t 0), none⟩,
    ⟨some 6, .call 101 [.t 5, .k (.int .i64 0), .k (.int .i64 1000000000)] [] [], none⟩,
    ⟨some 7, .not (.t 6), none⟩] [0, 7] [])
  (.cond (.t 7) (.seq (.reg [⟨some 2, .mv (.k (.str ⟨#[]⟩)), none⟩,
    ⟨some 3, .mv (.k (.bool false)), none⟩] [2, 3] [])
  (.ret)) (.skip)))
  (.seq (.reg [⟨some 8, .bslice 1 0 [.int .u8 0] [], none⟩,
    ⟨some 4, .mv (.t 8), none⟩] [0, 4] [8, 17])
  (.seq (.block 0 (.loop impl_VarText.l0))
  (.seq (.reg [⟨some 20, .mv (.t 4), none⟩,
    ⟨some 21, .mv (.t 0), none⟩,
    ⟨some 22, .i2i .u8 (.t 21), none⟩,
    ⟨some 23, .bslice 1 1 [.int .u8 0] [(0, .t 22)], none⟩,
    ⟨some 24, .app 1 1 (.t 20) (.t 23), none⟩,
    ⟨some 25, .b2s (.t 24), none⟩,
    ⟨some 2, .mv (.t 25), none⟩,
    ⟨some 3, .mv (.k (.bool true)), none⟩] [2, 3] [])
  (.ret)))))
def impl_VarText.m : Fn := { np := 1, body := impl_VarText.b, res := [.tmp 2, .tmp 3] }
def impl_VarText.k (M : Nat → Option Body) : Prop := M 230 = some (.code impl_VarText.m) ∧ impl_within.k M
def impl_ShortText.b : C := .seq (.reg [⟨some 2, .mv (.k (.str ⟨#[]⟩)), none⟩,
    ⟨some 3, .mv (.k (.bool false)), none⟩] [0] [])
  (.seq (.seq (.reg [⟨some 6, .mv (.t 0), none⟩,
    ⟨some 7, .slen (.t 6), none⟩,
    ⟨some 8, .bin .gtr (.t 7) (.k (.int .i64 20000)), none⟩] [0, 8] [])
  (.cond (.t 8) (.seq (.reg [⟨some 2, .mv (.k (.str ⟨#[]⟩)), none⟩,
    ⟨some 3, .mv (.k (.bool false)), none⟩] [2, 3] [])
  (.ret)) (.skip)))
  (.seq (.reg [⟨some 10, .mv (.t 0), none⟩,
    ⟨some 11, .slen (.t 10), none⟩,
    ⟨some 12, .call 230 [.t 11] [] [], none⟩,
    ⟨some 9, .mv (.t 12), none⟩,
    ⟨some 13, .ext 0 (.t 9), none⟩,
    ⟨some 14, .ext 1 (.t 9), none⟩,
    ⟨some 4, .mv (.t 13), none⟩,
    ⟨some 5, .mv (.t 14), none⟩] [0, 4] [])
  (.seq (.reg [⟨some 15, .mv (.t 4), none⟩,
    ⟨some 16, .mv (.t 0), none⟩,
    ⟨some 17, .bin .add (.t 15) (.t 16), none⟩,
    ⟨some 2, .mv (.t 17), none⟩,
    ⟨some 3, .mv (.k (.bool true)), none⟩] [2, 3] [])
  (.ret))))
def impl_ShortText.m : Fn := { np := 1, body := impl_ShortText.b, res := [.tmp 2, .tmp 3] }
def impl_ShortText.k (M : Nat → Option Body) : Prop := M 205 = some (.code impl_ShortText.m) ∧ impl_VarText.k M
def spec_ReadVar.l0 : C := .seq (.seq (.reg [⟨some 16, .mv (.t 9), none⟩,
    ⟨some 17, .mv (.t 0), none⟩,
    ⟨some 18, .slen (.t 17), none⟩,
    ⟨some 19, .bin .lss (.t 16) (.t 18), none⟩,
    ⟨some 20, .mv (.t 19), none⟩,
    ⟨some 21, .mv (.t 9), some (20, true)⟩,
    ⟨some 22, .mv (.t 1), some (20, true)⟩,
    ⟨some 23, .bin .add (.t 22) (.k (.int .i64 5)), some (20, true)⟩,
    ⟨some 24, .bin .lss (.t 21) (.t 23), some (20, true)⟩,
    ⟨some 25, .pick (.t 20) (.t 24) (.k (.bool false)), none⟩] [0, 1, 7, 8, 9, 25] [])
  (.cond (.t 25) (.skip) (.exit 0)))
  (.seq (.block 1 (.seq (.reg [⟨some 28, .mv (.t 7), none⟩,
    ⟨some 29, .mv (.t 0), none⟩,
    ⟨some 30, .mv (.t 9), none⟩,
    ⟨some 31, .idx (.t 29) (.t 30), none⟩,
    ⟨some 32, .i2i .i64 (.t 31), none⟩,
    ⟨some 33, .bin .rem (.t 32) (.k (.int .i64 128)), none⟩,
    ⟨some 34, .mv (.t 8), none⟩,
    ⟨some 35, .bin .mul (.t 33) (.t 34), none⟩,
    ⟨some 36, .bin .add (.t 28) (.t 35), none⟩,
    ⟨some 7, .mv (.t 36), none⟩] [0, 1, 7, 8, 9] [])
  (.seq (.reg [⟨some 37, .mv (.t 8), none⟩,
    ⟨some 38, .bin .mul (.t 37) (.k (.int .i64 128)), none⟩,
    ⟨some 8, .mv (.t 38), none⟩] [0, 1, 7, 8, 9] [])
  (.seq (.reg [⟨some 39, .mv (.t 0), none⟩,
    ⟨some 40, .mv (.t 9), none⟩,
    ⟨some 41, .idx (.t 39) (.t 40), none⟩,
    ⟨some 42, .bin .lss (.t 41) (.k (.int .u8 128)), none⟩] [0, 1, 7, 8, 9, 42] [])
  (.cond (.t 42) (.seq (.seq (.regd [⟨some 43, .mv (.t 7), none⟩,
    ⟨some 44, .bin .gtr (.t 43) (.k (.int .i64 1000000000)), none⟩,
    ⟨some 45, .mv (.t 44), none⟩,
    ⟨some 46, .mv (.t 7), some (45, false)⟩,
    ⟨some 47, .call 99 [.t 46] [] [], some (45, false)⟩,
    ⟨some 48, .mv (.t 0), some (45, false)⟩,
    ⟨some 49, .mv (.t 1), some (45, false)⟩,
    ⟨some 50, .mv (.t 9), some (45, false)⟩,
    ⟨some 51, .bin .add (.t 50) (.k (.int .i64 1)), some (45, false)⟩,
    ⟨some 52, .sstr (.t 48) (some (.t 49)) (some (.t 51)), some (45, false)⟩,
    ⟨some 53, .bin .neq (.t 47) (.t 52), some (45, false)⟩,
    ⟨some 54, .pick (.t 45) (.k (.bool true)) (.t 53), none⟩] [[], [0], [0, 1], [0, 1, 2], [0, 1, 2, 3], [0, 1, 2], [0, 1, 2], [0, 1, 2], [0, 1, 2, 7], [0, 1, 2, 5, 6, 7, 8], [0, 1, 2, 3, 4, 5, 6, 7, 8, 9], [0, 1, 2, 3, 4, 5, 6, 7, 8, 9, 10]] [7, 9, 54] [])
  (.cond (.t 54) (.seq (.reg [⟨some 4, .mv (.k (.int .i64 0)), none⟩,
    ⟨some 5, .mv (.k (.int .i64 0)), none⟩,
    ⟨some 6, .mv (.k (.bool false)), none⟩] [4, 5, 6] [])
  (.ret)) (.skip)))
  (.seq (.reg [⟨some 55, .mv (.t 7), none⟩,
    ⟨some 56, .mv (.t 9), none⟩,
    ⟨some 57, .bin .add (.t 56) (.k (.int .i64 1)), none⟩,
    ⟨some 4, .mv (.t 55), none⟩,
    ⟨some 5, .mv (.t 57), none⟩,
    ⟨some 6, .mv (.k (.bool true)), none⟩] [4, 5, 6] [])
  (.ret))) (.skip))))))
  (.reg [⟨some 26, .mv (.t 9), none⟩,
    ⟨some 27, .bin .add (.t 26) (.k (.int .i64 1)), none⟩,
    ⟨some 9, .mv (.t 27), none⟩] [0, 1, 7, 8, 9] []))
def spec_ReadVar.b : C := .seq (.reg [⟨some 4, .mv (.k (.int .i64 0)), none⟩,
    ⟨some 5, .mv (.k (.int .i64 0)), none⟩,
    ⟨some 6, .mv (.k (.bool false)), none⟩] [0, 1] [])
  (.seq (.seq (.reg [⟨some 10, .mv (.t 1), none⟩,
    ⟨some 11, .mv (.t 0), none⟩,
    ⟨some 12, .slen (.t 11), none⟩,
    ⟨some 13, .call 98 [.t 10, .k (.int .i64 0), .t 12] [] [], none⟩,
    ⟨some 14, .not (.t 13), none⟩] [0, 1, 14] [])
  (.cond (.t 14) (.seq (.reg [⟨some 4, .mv (.k (.int .i64 0)), none⟩,
    ⟨some 5, .mv (.k (.int .i64 0)), none⟩,
    ⟨some 6, .mv (.k (.bool false)), none⟩] [4, 5, 6] [])
  (.ret)) (.skip)))
  (.seq (.reg [⟨some 7, .mv (.k (.int .i64 0)), none⟩] [0, 1, 7] [])
  (.seq (.reg [⟨some 8, .mv (.k (.int .i64 1)), none⟩] [0, 1, 7, 8] [])
  (.seq (.seq (.reg [⟨some 15, .mv (.t 1), none⟩,
    ⟨some 9, .mv (.t 15), none⟩] [0, 1, 7, 8, 9] [])
  (.block 0 (.loop spec_ReadVar.l0)))
  (.seq (.reg [⟨some 4, .mv (.k (.int .i64 0)), none⟩,
    ⟨some 5, .mv (.k (.int .i64 0)), none⟩,
    ⟨some 6, .mv (.k (.bool false)), none⟩] [4, 5, 6] [])
  (.ret))))))
def spec_ReadVar.m : Fn := { np := 2, body := spec_ReadVar.b, res := [.tmp 4, .tmp 5, .tmp 6] }
def spec_ReadVar.k (M : Nat → Option Body) : Prop := M 221 = some (.code spec_ReadVar.m) ∧ spec_l01In.k M ∧ spec_l01Var.k M
def impl_ReadVar.l0 : C := .seq (.seq (.reg [⟨some 16, .mv (.t 8), none⟩,
    ⟨some 17, .bin .lss (.t 16) (.k (.int .i64 5)), none⟩,
    ⟨some 18, .mv (.t 17), none⟩,
    ⟨some 19, .mv (.t 1), some (18, true)⟩,
    ⟨some 20, .mv (.t 8), some (18, true)⟩,
    ⟨some 21, .bin .add (.t 19) (.t 20), some (18, true)⟩,
    ⟨some 22, .mv (.t 0), some (18, true)⟩,
    ⟨some 23, .slen (.t 22), some (18, true)⟩,
    ⟨some 24, .bin .lss (.t 21) (.t 23), some (18, true)⟩,
    ⟨some 25, .pick (.t 18) (.t 24) (.k (.bool false)), none⟩] [0, 1, 7, 8, 25] [])
  (.cond (.t 25) (.skip) (.exit 0)))
  (.seq (.block 1 (.seq (.reg [⟨some 28, .mv (.t 7), none⟩,
    ⟨some 29, .mv (.t 0), none⟩,
    ⟨some 30, .mv (.t 1), none⟩,
    ⟨some 31, .mv (.t 8), none⟩,
    ⟨some 32, .bin .add (.t 30) (.t 31), none⟩,
    ⟨some 33, .idx (.t 29) (.t 32), none⟩,
    ⟨some 34, .bin .and (.t 33) (.k (.int .u8 127)), none⟩,
    ⟨some 35, .i2i .i64 (.t 34), none⟩,
    ⟨some 36, .mv (.t 8), none⟩,
    ⟨some 37, .bin .mul (.k (.int .i64 7)) (.t 36), none⟩,
    ⟨some 38, .bin .shl (.t 35) (.t 37), none⟩,
    ⟨some 39, .bin .or (.t 28) (.t 38), none⟩,
    ⟨some 7, .mv (.t 39), none⟩] [0, 1, 7, 8] [])
  (.seq (.seq (.reg [⟨some 40, .mv (.t 0), none⟩,
    ⟨some 41, .mv (.t 1), none⟩,
    ⟨some 42, .mv (.t 8), none⟩,
    ⟨some 43, .bin .add (.t 41) (.t 42), none⟩,
    ⟨some 44, .idx (.t 40) (.t 43), none⟩,
    ⟨some 45, .bin .gtr (.t 44) (.k (.int .u8 127)), none⟩] [0, 1, 7, 8, 45] [])
  (.cond (.t 45) (.exit 1) (.skip)))
  (.seq (.seq (.reg [⟨some 47, .mv (.t 7), none⟩,
    ⟨some 48, .call 230 [.t 47] [] [], none⟩,
    ⟨some 46, .mv (.t 48), none⟩,
    ⟨some 49, .ext 0 (.t 46), none⟩,
    ⟨some 50, .ext 1 (.t 46), none⟩,
    ⟨some 9, .mv (.t 49), none⟩,
    ⟨some 10, .mv (.t 50), none⟩] [0, 1, 7, 8, 9, 10] [])
  (.seq (.reg [⟨some 51, .mv (.t 10), none⟩,
    ⟨some 52, .not (.t 51), none⟩,
    ⟨some 53, .mv (.t 52), none⟩,
    ⟨some 54, .mv (.t 9), some (53, false)⟩,
    ⟨some 55, .mv (.t 0), some (53, false)⟩,
    ⟨some 56, .mv (.t 1), some (53, false)⟩,
    ⟨some 57, .mv (.t 1), some (53, false)⟩,
    ⟨some 58, .mv (.t 8), some (53, false)⟩,
    ⟨some 59, .bin .add (.t 57) (.t 58), some (53, false)⟩,
    ⟨some 60, .bin .add (.t 59) (.k (.int .i64 1)), some (53, false)⟩,
    ⟨some 61, .sstr (.t 55) (some (.t 56)) (some (.t 60)), some (53, false)⟩,
    ⟨some 62, .bin .neq (.t 54) (.t 61), some (53, false)⟩,
    ⟨some 63, .pick (.t 53) (.k (.bool true)) (.t 62), none⟩] [1, 7, 8, 63] [])
  (.cond (.t 63) (.seq (.reg [⟨some 4, .mv (.k (.int .i64 0)), none⟩,
    ⟨some 5, .mv (.k (.int .i64 0)), none⟩,
    ⟨some 6, .mv (.k (.bool false)), none⟩] [4, 5, 6] [])
  (.ret)) (.skip))))
  (.seq (.reg [⟨some 64, .mv (.t 7), none⟩,
    ⟨some 65, .mv (.t 1), none⟩,
    ⟨some 66, .mv (.t 8), none⟩,
    ⟨some 67, .bin .add (.t 65) (.t 66), none⟩,
    ⟨some 68, .bin .add (.t 67) (.k (.int .i64 1)), none⟩,
    ⟨some 4, .mv (.t 64), none⟩,
    ⟨some 5, .mv (.t 68), none⟩,
    ⟨some 6, .mv (.k (.bool true)), none⟩] [4, 5, 6] [])
  (.ret))))))
  (.reg [⟨some 26, .mv (.t 8), none⟩,
    ⟨some 27, .bin .add (.t 26) (.k (.int .i64 1)), none⟩,
    ⟨some 8, .mv (.t 27), none⟩] [0, 1, 7, 8] []))
def impl_ReadVar.b : C := .seq (.reg [⟨some 4, .mv (.k (.int .i64 0)), none⟩,
    ⟨some 5, .mv (.k (.int .i64 0)), none⟩,
    ⟨some 6, .mv (.k (.bool false)), none⟩] [0, 1] [])
  (.seq (.seq (.reg [⟨some 11, .mv (.t 1), none⟩,
    ⟨some 12, .mv (.t 0), none⟩,
    ⟨some 13, .slen (.t 12), none⟩,
    ⟨some 14, .call 101 [.t 11, .k (.int .i64 0), .t 13] [] [], none⟩,
    ⟨some 15, .not (.t 14), none⟩] [0, 1, 15] [])
  (.cond (.t 15) (.seq (.reg [⟨some 4, .mv (.k (.int .i64 0)), none⟩,
    ⟨some 5, .mv (.k (.int .i64 0)), none⟩,
    ⟨some 6, .mv (.k (.bool false)), none⟩] [4, 5, 6] [])
  (.ret)) (.skip)))
  (.seq (.reg [⟨some 7, .mv (.k (.int .i64 0)), none⟩] [0, 1, 7] [])
  (.seq (.seq (.reg [⟨some 8, .mv (.k (.int .i64 0)), none⟩] [0, 1, 7, 8] [])
  (.block 0 (.loop impl_ReadVar.l0)))
  (.seq (.reg [⟨some 4, .mv (.k (.int .i64 0)), none⟩,
    ⟨some 5, .mv (.k (.int .i64 0)), none⟩,
    ⟨some 6, .mv (.k (.bool false)), none⟩] [4, 5, 6] [])
  (.ret)))))
def impl_ReadVar.m : Fn := { np := 2, body := impl_ReadVar.b, res := [.tmp 4, .tmp 5, .tmp 6] }
def impl_ReadVar.k (M : Nat → Option Body) : Prop := M 231 = some (.code impl_ReadVar.m) ∧ impl_within.k M ∧ impl_VarText.k M
def spec_ReadShort.b : C := .seq (.reg [⟨some 4, .mv (.k (.str ⟨#[]⟩)), none⟩,
    ⟨some 5, .mv (.k (.int .i64 0)), none⟩,
    ⟨some 6, .mv (.k (.bool false)), none⟩] [0, 1] [])
  (.seq (.reg [⟨some 11, .mv (.t 0), none⟩,
    ⟨some 12, .mv (.t 1), none⟩,
    ⟨some 13, .call 221 [.t 11, .t 12] [] [], none⟩,
    ⟨some 10, .mv (.t 13), none⟩,
    ⟨some 14, .ext 0 (.t 10), none⟩,
    ⟨some 15, .ext 1 (.t 10), none⟩,
    ⟨some 16, .ext 2 (.t 10), none⟩,
    ⟨some 7, .mv (.t 14), none⟩,
    ⟨some 8, .mv (.t 15), none⟩,
    ⟨some 9, .mv (.t 16), none⟩] [0, 7, 8, 9] [])
  (.seq (.seq (.reg [⟨some 17, .mv (.t 9), none⟩,
    ⟨some 18, .not (.t 17), none⟩,
    ⟨some 19, .mv (.t 18), none⟩,
    ⟨some 20, .mv (.t 7), some (19, false)⟩,
    ⟨some 21, .bin .gtr (.t 20) (.k (.int .i64 20000)), some (19, false)⟩,
    ⟨some 22, .pick (.t 19) (.k (.bool true)) (.t 21), none⟩,
    ⟨some 23, .mv (.t 22), none⟩,
    ⟨some 24, .mv (.t 7), some (23, false)⟩,
    ⟨some 25, .mv (.t 0), some (23, false)⟩,
    ⟨some 26, .slen (.t 25), some (23, false)⟩,
    ⟨some 27, .mv (.t 8), some (23, false)⟩,
    ⟨some 28, .bin .sub (.t 26) (.t 27), some (23, false)⟩,
    ⟨some 29, .bin .gtr (.t 24) (.t 28), some (23, false)⟩,
    ⟨some 30, .pick (.t 23) (.k (.bool true)) (.t 29), none⟩] [0, 7, 8, 30] [])
  (.cond (.t 30) (.seq (.reg [⟨some 4, .mv (.k (.str ⟨#[]⟩)), none⟩,
    ⟨some 5, .mv (.k (.int .i64 0)), none⟩,
    ⟨some 6, .mv (.k (.bool false)), none⟩] [4, 5, 6] [])
  (.ret)) (.skip)))
  (.seq (.reg [⟨some 31, .mv (.t 0), none⟩,
    ⟨some 32, .mv (.t 8), none⟩,
    ⟨some 33, .mv (.t 8), none⟩,
    ⟨some 34, .mv (.t 7), none⟩,
    ⟨some 35, .bin .add (.t 33) (.t 34), none⟩,
    ⟨some 36, .sstr (.t 31) (some (.t 32)) (some (.t 35)), none⟩,
    ⟨some 37, .mv (.t 8), none⟩,
    ⟨some 38, .mv (.t 7), none⟩,
    ⟨some 39, .bin .add (.t 37) (.t 38), none⟩,
    ⟨some 4, .mv (.t 36), none⟩,
    ⟨some 5, .mv (.t 39), none⟩,
    ⟨some 6, .mv (.k (.bool true)), none⟩] [4, 5, 6] [])
  (.ret))))
def spec_ReadShort.m : Fn := { np := 2, body := spec_ReadShort.b, res := [.tmp 4, .tmp 5, .tmp 6] }
def spec_ReadShort.k (M : Nat → Option Body) : Prop := M 206 = some (.code spec_ReadShort.m) ∧ spec_ReadVar.k M
def impl_ReadShort.b : C := .seq (.reg [⟨some 4, .mv (.k (.str ⟨#[]⟩)), none⟩,
    ⟨some 5, .mv (.k (.int .i64 0)), none⟩,
    ⟨some 6, .mv (.k (.bool false)), none⟩] [0, 1] [])
  (.seq (.reg [⟨some 11, .mv (.t 0), none⟩,
    ⟨some 12, .mv (.t 1), none⟩,
    ⟨some 13, .call 231 [.t 11, .t 12] [] [], none⟩,
    ⟨some 10, .mv (.t 13), none⟩,
    ⟨some 14, .ext 0 (.t 10), none⟩,
    ⟨some 15, .ext 1 (.t 10), none⟩,
    ⟨some 16, .ext 2 (.t 10), none⟩,
    ⟨some 7, .mv (.t 14), none⟩,
    ⟨some 8, .mv (.t 15), none⟩,
    ⟨some 9, .mv (.t 16), none⟩] [0, 7, 8, 9] [])
  (.seq (.seq (.reg [⟨some 17, .mv (.t 9), none⟩,
    ⟨some 18, .not (.t 17), none⟩,
    ⟨some 19, .mv (.t 18), none⟩,
    ⟨some 20, .mv (.t 7), some (19, false)⟩,
    ⟨some 21, .bin .gtr (.t 20) (.k (.int .i64 20000)), some (19, false)⟩,
    ⟨some 22, .pick (.t 19) (.k (.bool true)) (.t 21), none⟩,
    ⟨some 23, .mv (.t 22), none⟩,
    ⟨some 24, .mv (.t 7), some (23, false)⟩,
    ⟨some 25, .mv (.t 0), some (23, false)⟩,
    ⟨some 26, .slen (.t 25), some (23, false)⟩,
    ⟨some 27, .mv (.t 8), some (23, false)⟩,
    ⟨some 28, .bin .sub (.t 26) (.t 27), some (23, false)⟩,
    ⟨some 29, .bin .gtr (.t 24) (.t 28), some (23, false)⟩,
    ⟨some 30, .pick (.t 23) (.k (.bool true)) (.t 29), none⟩] [0, 7, 8, 30] [])
  (.cond (.t 30) (.seq (.reg [⟨some 4, .mv (.k (.str ⟨#[]⟩)), none⟩,
    ⟨some 5, .mv (.k (.int .i64 0)), none⟩,
    ⟨some 6, .mv (.k (.bool false)), none⟩] [4, 5, 6] [])
  (.ret)) (.skip)))
  (.seq (.reg [⟨some 31, .mv (.t 0), none⟩,
    ⟨some 32, .mv (.t 8), none⟩,
    ⟨some 33, .mv (.t 8), none⟩,
    ⟨some 34, .mv (.t 7), none⟩,
    ⟨some 35, .bin .add (.t 33) (.t 34), none⟩,
    ⟨some 36, .sstr (.t 31) (some (.t 32)) (some (.t 35)), none⟩,
    ⟨some 37, .mv (.t 8), none⟩,
    ⟨some 38, .mv (.t 7), none⟩,
    ⟨some 39, .bin .add (.t 37) (.t 38), none⟩,
    ⟨some 4, .mv (.t 36), none⟩,
    ⟨some 5, .mv (.t 39), none⟩,
    ⟨some 6, .mv (.k (.bool true)), none⟩] [4, 5, 6] [])
  (.ret))))
def impl_ReadShort.m : Fn := { np := 2, body := impl_ReadShort.b, res := [.tmp 4, .tmp 5, .tmp 6] }
def impl_ReadShort.k (M : Nat → Option Body) : Prop := M 207 = some (.code impl_ReadShort.m) ∧ impl_ReadVar.k M
def impl_short.b : C := .seq (.reg [⟨some 2, .mv (.k (.str ⟨#[]⟩)), none⟩] [0] [])
  (.seq (.reg [⟨some 6, .mv (.t 0), none⟩,
    ⟨some 7, .call 205 [.t 6] [] [], none⟩,
    ⟨some 5, .mv (.t 7), none⟩,
    ⟨some 8, .ext 0 (.t 5), none⟩,
    ⟨some 9, .ext 1 (.t 5), none⟩,
    ⟨some 3, .mv (.t 8), none⟩,
    ⟨some 4, .mv (.t 9), none⟩] [3] [])
  (.seq (.reg [⟨some 10, .mv (.t 3), none⟩,
    ⟨some 2, .mv (.t 10), none⟩] [2] [])
  (.ret)))
def impl_short.m : Fn := { np := 1, body := impl_short.b, res := [.tmp 2] }
def impl_short.k (M : Nat → Option Body) : Prop := M 102 = some (.code impl_short.m) ∧ impl_ShortText.k M
def impl_vars.l0 : C := .seq (.reg [⟨some 11, .bin .lss (.t 10) (.t 9), none⟩] [3, 8, 9, 10, 11] [])
  (.seq (.cond (.t 11) (.skip) (.exit 0))
  (.seq (.block 1 (.seq (.reg [⟨some 12, .iaddr 1 (.t 8) (.t 10), none⟩,
    ⟨some 13, .load false 1 (.t 12), none⟩,
    ⟨some 5, .mv (.t 13), none⟩] [3, 5, 8, 9, 10] [])
  (.seq (.reg [⟨some 15, .mv (.t 5), none⟩,
    ⟨some 16, .call 230 [.t 15] [] [], none⟩,
    ⟨some 14, .mv (.t 16), none⟩,
    ⟨some 17, .ext 0 (.t 14), none⟩,
    ⟨some 18, .ext 1 (.t 14), none⟩,
    ⟨some 6, .mv (.t 17), none⟩,
    ⟨some 7, .mv (.t 18), none⟩] [3, 6, 8, 9, 10] [])
  (.reg [⟨some 19, .mv (.t 3), none⟩,
    ⟨some 20, .mv (.t 6), none⟩,
    ⟨some 21, .bin .add (.t 19) (.t 20), none⟩,
    ⟨some 3, .mv (.t 21), none⟩] [3, 8, 9, 10] []))))
  (.reg [⟨some 22, .bin .add (.t 10) (.k (.int .i64 1)), none⟩,
    ⟨some 10, .mv (.t 22), none⟩] [3, 8, 9, 10] [])))
def impl_vars.b : C := .seq (.reg [⟨some 2, .mv (.k (.str ⟨#[]⟩)), none⟩] [0] [])
  (.seq (.reg [⟨some 3, .mv (.k (.str ⟨#[]⟩)), none⟩] [0, 3] [])
  (.seq (.seq (.reg [⟨some 8, .mv (.t 0), none⟩,
    ⟨some 9, .len (.t 8), none⟩,
    ⟨some 10, .mv (.k (.int .i64 0)), none⟩] [3, 8, 9, 10] [])
  (.block 0 (.loop impl_vars.l0)))
  (.seq (.reg [⟨some 23, .mv (.t 3), none⟩,
    ⟨some 2, .mv (.t 23), none⟩] [2] [])
  (.ret))))
def impl_vars.m : Fn := { np := 1, body := impl_vars.b, res := [.tmp 2] }
def impl_vars.k (M : Nat → Option Body) : Prop := M 151 = some (.code impl_vars.m) ∧ impl_VarText.k M
end Mx

/-
  Small codes: impl.StampOk, spec.StampOk, impl.RegOk, spec.RegOk, impl.FlagsOk, spec.FlagsOk, impl.isGid, impl.MailOk, spec.MailOk, impl.NameOk, spec.NameOk, impl.areGids, spec.l06Sorted, spec.l06In, slices.Index[[]int,int], slices.Contains[[]int,int], impl.BoxOk, spec.BoxOk, impl.MailText, spec.MailText, impl.boxText, impl.BoxText, spec.BoxText, laws.FnExactBoxText.
-/
namespace Mx
open Go
def impl_StampOk.b : C := .seq (.reg [⟨some 1, .box (.t 0), none⟩,
    ⟨some 2, .mv (.k (.bool false)), none⟩] [1] [1])
  (.seq (.reg [⟨some 3, .faddr 0 (.t 1), none⟩,
    ⟨some 4, .load false 1 (.t 3), none⟩,
    ⟨some 5, .call 101 [.t 4, .k (.int .i64 0), .k (.int .i64 100000)] [] [], none⟩,
    ⟨some 6, .mv (.t 5), none⟩,
    ⟨some 7, .faddr 1 (.t 1), some (6, true)⟩,
    ⟨some 8, .load false 1 (.t 7), some (6, true)⟩,
    ⟨some 9, .call 101 [.t 8, .k (.int .i64 0), .k (.int .i64 2)] [] [], some (6, true)⟩,
    ⟨some 10, .pick (.t 6) (.t 9) (.k (.bool false)), none⟩,
    ⟨some 2, .mv (.t 10), none⟩] [2] [])
  (.ret))
def impl_StampOk.m : Fn := { np := 1, body := impl_StampOk.b, res := [.tmp 2] }
def impl_StampOk.k (M : Nat → Option Body) : Prop := M 164 = some (.code impl_StampOk.m) ∧ impl_within.k M
def spec_StampOk.b : C := .seq (.reg [⟨some 1, .box (.t 0), none⟩,
    ⟨some 2, .mv (.k (.bool false)), none⟩] [1] [1])
  (.seq (.reg [⟨some 3, .faddr 0 (.t 1), none⟩,
    ⟨some 4, .load false 1 (.t 3), none⟩,
    ⟨some 5, .call 98 [.t 4, .k (.int .i64 0), .k (.int .i64 100000)] [] [], none⟩,
    ⟨some 6, .mv (.t 5), none⟩,
    ⟨some 7, .faddr 1 (.t 1), some (6, true)⟩,
    ⟨some 8, .load false 1 (.t 7), some (6, true)⟩,
    ⟨some 9, .call 98 [.t 8, .k (.int .i64 0), .k (.int .i64 2)] [] [], some (6, true)⟩,
    ⟨some 10, .pick (.t 6) (.t 9) (.k (.bool false)), none⟩,
    ⟨some 2, .mv (.t 10), none⟩] [2] [])
  (.ret))
def spec_StampOk.m : Fn := { np := 1, body := spec_StampOk.b, res := [.tmp 2] }
def spec_StampOk.k (M : Nat → Option Body) : Prop := M 183 = some (.code spec_StampOk.m) ∧ spec_l01In.k M
def impl_RegOk.b : C := .seq (.reg [⟨some 1, .box (.t 0), none⟩,
    ⟨some 2, .mv (.k (.bool false)), none⟩] [1] [1])
  (.seq (.reg [⟨some 3, .faddr 1 (.t 1), none⟩,
    ⟨some 4, .load true 2 (.t 3), none⟩,
    ⟨some 5, .call 164 [.t 4] [] [], none⟩,
    ⟨some 6, .mv (.t 5), none⟩,
    ⟨some 7, .faddr 0 (.t 1), some (6, true)⟩,
    ⟨some 8, .load false 1 (.t 7), some (6, true)⟩,
    ⟨some 9, .call 101 [.t 8, .k (.int .i64 0), .k (.int .i64 1000000000)] [] [], some (6, true)⟩,
    ⟨some 10, .pick (.t 6) (.t 9) (.k (.bool false)), none⟩,
    ⟨some 2, .mv (.t 10), none⟩] [2] [])
  (.ret))
def impl_RegOk.m : Fn := { np := 1, body := impl_RegOk.b, res := [.tmp 2] }
def impl_RegOk.k (M : Nat → Option Body) : Prop := M 272 = some (.code impl_RegOk.m) ∧ impl_within.k M ∧ impl_StampOk.k M
def spec_RegOk.b : C := .seq (.reg [⟨some 1, .box (.t 0), none⟩,
    ⟨some 2, .mv (.k (.bool false)), none⟩] [1] [1])
  (.seq (.reg [⟨some 3, .faddr 1 (.t 1), none⟩,
    ⟨some 4, .load true 2 (.t 3), none⟩,
    ⟨some 5, .call 183 [.t 4] [] [], none⟩,
    ⟨some 6, .mv (.t 5), none⟩,
    ⟨some 7, .faddr 0 (.t 1), some (6, true)⟩,
    ⟨some 8, .load false 1 (.t 7), some (6, true)⟩,
    ⟨some 9, .call 98 [.t 8, .k (.int .i64 0), .k (.int .i64 1000000000)] [] [], some (6, true)⟩,
    ⟨some 10, .pick (.t 6) (.t 9) (.k (.bool false)), none⟩,
    ⟨some 2, .mv (.t 10), none⟩] [2] [])
  (.ret))
def spec_RegOk.m : Fn := { np := 1, body := spec_RegOk.b, res := [.tmp 2] }
def spec_RegOk.k (M : Nat → Option Body) : Prop := M 276 = some (.code spec_RegOk.m) ∧ spec_l01In.k M ∧ spec_StampOk.k M
def impl_FlagsOk.l0 : C := .seq (.reg [⟨some 8, .bin .lss (.t 7) (.t 6), none⟩] [0, 5, 6, 7, 8] [])
  (.seq (.cond (.t 8) (.skip) (.exit 0))
  (.seq (.block 1 (.seq (.reg [⟨some 9, .iaddr 3 (.t 5) (.t 7), none⟩,
    ⟨some 10, .load true 3 (.t 9), none⟩,
    ⟨some 4, .alloc [.int .i64 0, .int .i64 0, .int .i64 0], none⟩,
    ⟨none, .store 3 (.t 4) (.t 10), none⟩] [0, 4, 5, 6, 7] [4])
  (.seq (.reg [⟨some 11, .load true 3 (.t 4), none⟩,
    ⟨some 12, .call 272 [.t 11] [] [], none⟩,
    ⟨some 13, .not (.t 12), none⟩,
    ⟨some 14, .mv (.t 13), none⟩,
    ⟨some 15, .faddr 0 (.t 4), some (14, false)⟩,
    ⟨some 16, .load false 1 (.t 15), some (14, false)⟩,
    ⟨some 17, .bin .gtr (.t 16) (.k (.int .i64 1)), some (14, false)⟩,
    ⟨some 18, .pick (.t 14) (.k (.bool true)) (.t 17), none⟩] [0, 5, 6, 7, 18] [])
  (.cond (.t 18) (.seq (.reg [⟨some 2, .mv (.k (.bool false)), none⟩] [2] [])
  (.ret)) (.skip)))))
  (.reg [⟨some 19, .bin .add (.t 7) (.k (.int .i64 1)), none⟩,
    ⟨some 7, .mv (.t 19), none⟩] [0, 5, 6, 7] [])))
def impl_FlagsOk.b : C := .seq (.reg [⟨some 2, .mv (.k (.bool false)), none⟩] [0] [])
  (.seq (.seq (.reg [⟨some 5, .mv (.t 0), none⟩,
    ⟨some 6, .len (.t 5), none⟩,
    ⟨some 7, .mv (.k (.int .i64 0)), none⟩] [0, 5, 6, 7] [])
  (.block 0 (.loop impl_FlagsOk.l0)))
  (.seq (.reg [⟨some 20, .mv (.t 0), none⟩,
    ⟨some 21, .len (.t 20), none⟩,
    ⟨some 22, .bin .eql (.t 21) (.k (.int .i64 3)), none⟩,
    ⟨some 2, .mv (.t 22), none⟩] [2] [])
  (.ret)))
def impl_FlagsOk.m : Fn := { np := 1, body := impl_FlagsOk.b, res := [.tmp 2] }
def impl_FlagsOk.k (M : Nat → Option Body) : Prop := M 235 = some (.code impl_FlagsOk.m) ∧ impl_RegOk.k M
def spec_FlagsOk.l0 : C := .seq (.seq (.reg [⟨some 4, .mv (.t 3), none⟩,
    ⟨some 5, .mv (.t 0), none⟩,
    ⟨some 6, .len (.t 5), none⟩,
    ⟨some 7, .bin .lss (.t 4) (.t 6), none⟩] [0, 3, 7] [])
  (.cond (.t 7) (.skip) (.exit 0)))
  (.seq (.block 1 (.seq (.reg [⟨some 10, .mv (.t 0), none⟩,
    ⟨some 11, .mv (.t 3), none⟩,
    ⟨some 12, .iaddr 3 (.t 10) (.t 11), none⟩,
    ⟨some 13, .load true 3 (.t 12), none⟩,
    ⟨some 14, .call 276 [.t 13] [] [], none⟩,
    ⟨some 15, .not (.t 14), none⟩,
    ⟨some 16, .mv (.t 15), none⟩,
    ⟨some 17, .mv (.t 0), some (16, false)⟩,
    ⟨some 18, .mv (.t 3), some (16, false)⟩,
    ⟨some 19, .iaddr 3 (.t 17) (.t 18), some (16, false)⟩,
    ⟨some 20, .faddr 0 (.t 19), some (16, false)⟩,
    ⟨some 21, .load false 1 (.t 20), some (16, false)⟩,
    ⟨some 22, .bin .gtr (.t 21) (.k (.int .i64 1)), some (16, false)⟩,
    ⟨some 23, .pick (.t 16) (.k (.bool true)) (.t 22), none⟩] [0, 3, 23] [])
  (.cond (.t 23) (.seq (.reg [⟨some 2, .mv (.k (.bool false)), none⟩] [2] [])
  (.ret)) (.skip))))
  (.reg [⟨some 8, .mv (.t 3), none⟩,
    ⟨some 9, .bin .add (.t 8) (.k (.int .i64 1)), none⟩,
    ⟨some 3, .mv (.t 9), none⟩] [0, 3] []))
def spec_FlagsOk.b : C := .seq (.reg [⟨some 2, .mv (.k (.bool false)), none⟩] [0] [])
  (.seq (.seq (.reg [⟨some 3, .mv (.k (.int .i64 0)), none⟩] [0, 3] [])
  (.block 0 (.loop spec_FlagsOk.l0)))
  (.seq (.reg [⟨some 24, .mv (.t 0), none⟩,
    ⟨some 25, .len (.t 24), none⟩,
    ⟨some 26, .bin .eql (.t 25) (.k (.int .i64 3)), none⟩,
    ⟨some 2, .mv (.t 26), none⟩] [2] [])
  (.ret)))
def spec_FlagsOk.m : Fn := { np := 1, body := spec_FlagsOk.b, res := [.tmp 2] }
def spec_FlagsOk.k (M : Nat → Option Body) : Prop := M 242 = some (.code spec_FlagsOk.m) ∧ spec_RegOk.k M
def impl_isGid.b : C := .seq (.reg [⟨some 2, .mv (.k (.bool false)), none⟩] [0] [])
  (.seq (.reg [⟨some 3, .mv (.t 0), none⟩,
    ⟨some 4, .call 101 [.t 3, .k (.int .i64 1), .k (.int .i64 9999)] [] [], none⟩,
    ⟨some 2, .mv (.t 4), none⟩] [2] [])
  (.ret))
def impl_isGid.m : Fn := { np := 1, body := impl_isGid.b, res := [.tmp 2] }
def impl_isGid.k (M : Nat → Option Body) : Prop := M 147 = some (.code impl_isGid.m) ∧ impl_within.k M
def impl_MailOk.b : C := .seq (.reg [⟨some 1, .box (.t 0), none⟩,
    ⟨some 2, .mv (.k (.bool false)), none⟩] [1] [1])
  (.seq (.reg [⟨some 3, .faddr 0 (.t 1), none⟩,
    ⟨some 4, .load false 1 (.t 3), none⟩,
    ⟨some 5, .call 147 [.t 4] [] [], none⟩,
    ⟨some 6, .mv (.t 5), none⟩,
    ⟨some 7, .faddr 1 (.t 1), some (6, true)⟩,
    ⟨some 8, .load false 1 (.t 7), some (6, true)⟩,
    ⟨some 9, .call 147 [.t 8] [] [], some (6, true)⟩,
    ⟨some 10, .pick (.t 6) (.t 9) (.k (.bool false)), none⟩,
    ⟨some 11, .mv (.t 10), none⟩,
    ⟨some 12, .faddr 2 (.t 1), some (11, true)⟩,
    ⟨some 13, .load false 1 (.t 12), some (11, true)⟩,
    ⟨some 14, .call 235 [.t 13] [] [], some (11, true)⟩,
    ⟨some 15, .pick (.t 11) (.t 14) (.k (.bool false)), none⟩,
    ⟨some 16, .mv (.t 15), none⟩,
    ⟨some 17, .faddr 3 (.t 1), some (16, true)⟩,
    ⟨some 18, .load false 1 (.t 17), some (16, true)⟩,
    ⟨some 19, .slen (.t 18), some (16, true)⟩,
    ⟨some 20, .bin .leq (.t 19) (.k (.int .i64 60)), some (16, true)⟩,
    ⟨some 21, .pick (.t 16) (.t 20) (.k (.bool false)), none⟩,
    ⟨some 2, .mv (.t 21), none⟩] [2] [])
  (.ret))
def impl_MailOk.m : Fn := { np := 1, body := impl_MailOk.b, res := [.tmp 2] }
def impl_MailOk.k (M : Nat → Option Body) : Prop := M 166 = some (.code impl_MailOk.m) ∧ impl_isGid.k M ∧ impl_FlagsOk.k M
def spec_MailOk.b : C := .seq (.reg [⟨some 1, .box (.t 0), none⟩,
    ⟨some 2, .mv (.k (.bool false)), none⟩] [1] [1])
  (.seq (.reg [⟨some 3, .faddr 0 (.t 1), none⟩,
    ⟨some 4, .load false 1 (.t 3), none⟩,
    ⟨some 5, .call 98 [.t 4, .k (.int .i64 1), .k (.int .i64 9999)] [] [], none⟩,
    ⟨some 6, .mv (.t 5), none⟩,
    ⟨some 7, .faddr 1 (.t 1), some (6, true)⟩,
    ⟨some 8, .load false 1 (.t 7), some (6, true)⟩,
    ⟨some 9, .call 98 [.t 8, .k (.int .i64 1), .k (.int .i64 9999)] [] [], some (6, true)⟩,
    ⟨some 10, .pick (.t 6) (.t 9) (.k (.bool false)), none⟩,
    ⟨some 11, .mv (.t 10), none⟩,
    ⟨some 12, .faddr 2 (.t 1), some (11, true)⟩,
    ⟨some 13, .load false 1 (.t 12), some (11, true)⟩,
    ⟨some 14, .call 242 [.t 13] [] [], some (11, true)⟩,
    ⟨some 15, .pick (.t 11) (.t 14) (.k (.bool false)), none⟩,
    ⟨some 16, .mv (.t 15), none⟩,
    ⟨some 17, .faddr 3 (.t 1), some (16, true)⟩,
    ⟨some 18, .load false 1 (.t 17), some (16, true)⟩,
    ⟨some 19, .slen (.t 18), some (16, true)⟩,
    ⟨some 20, .bin .leq (.t 19) (.k (.int .i64 60)), some (16, true)⟩,
    ⟨some 21, .pick (.t 16) (.t 20) (.k (.bool false)), none⟩,
    ⟨some 2, .mv (.t 21), none⟩] [2] [])
  (.ret))
def spec_MailOk.m : Fn := { np := 1, body := spec_MailOk.b, res := [.tmp 2] }
def spec_MailOk.k (M : Nat → Option Body) : Prop := M 187 = some (.code spec_MailOk.m) ∧ spec_l01In.k M ∧ spec_FlagsOk.k M
def impl_NameOk.l0 : C := .seq (.seq (.reg [⟨some 4, .mv (.t 3), none⟩,
    ⟨some 5, .mv (.t 0), none⟩,
    ⟨some 6, .slen (.t 5), none⟩,
    ⟨some 7, .bin .lss (.t 4) (.t 6), none⟩] [0, 3, 7] [])
  (.cond (.t 7) (.skip) (.exit 0)))
  (.seq (.block 1 (.seq (.reg [⟨some 10, .mv (.t 0), none⟩,
    ⟨some 11, .mv (.t 3), none⟩,
    ⟨some 12, .idx (.t 10) (.t 11), none⟩,
    ⟨some 13, .bin .lss (.t 12) (.k (.int .u8 97)), none⟩,
    ⟨some 14, .mv (.t 13), none⟩,
    ⟨some 15, .mv (.t 0), some (14, false)⟩,
    ⟨some 16, .mv (.t 3), some (14, false)⟩,
    ⟨some 17, .idx (.t 15) (.t 16), some (14, false)⟩,
    ⟨some 18, .bin .gtr (.t 17) (.k (.int .u8 122)), some (14, false)⟩,
    ⟨some 19, .pick (.t 14) (.k (.bool true)) (.t 18), none⟩,
    ⟨some 20, .mv (.t 19), none⟩,
    ⟨some 21, .mv (.t 0), some (20, true)⟩,
    ⟨some 22, .mv (.t 3), some (20, true)⟩,
    ⟨some 23, .idx (.t 21) (.t 22), some (20, true)⟩,
    ⟨some 24, .bin .lss (.t 23) (.k (.int .u8 48)), some (20, true)⟩,
    ⟨some 25, .mv (.t 24), some (20, true)⟩,
    ⟨some 26, .mv (.t 0), some (25, false)⟩,
    ⟨some 27, .mv (.t 3), some (25, false)⟩,
    ⟨some 28, .idx (.t 26) (.t 27), some (25, false)⟩,
    ⟨some 29, .bin .gtr (.t 28) (.k (.int .u8 57)), some (25, false)⟩,
    ⟨some 30, .pick (.t 25) (.k (.bool true)) (.t 29), some (20, true)⟩,
    ⟨some 31, .pick (.t 20) (.t 30) (.k (.bool false)), none⟩] [0, 3, 31] [])
  (.cond (.t 31) (.seq (.reg [⟨some 2, .mv (.k (.bool false)), none⟩] [2] [])
  (.ret)) (.skip))))
  (.reg [⟨some 8, .mv (.t 3), none⟩,
    ⟨some 9, .bin .add (.t 8) (.k (.int .i64 1)), none⟩,
    ⟨some 3, .mv (.t 9), none⟩] [0, 3] []))
def impl_NameOk.b : C := .seq (.reg [⟨some 2, .mv (.k (.bool false)), none⟩] [0] [])
  (.seq (.seq (.reg [⟨some 3, .mv (.k (.int .i64 0)), none⟩] [0, 3] [])
  (.block 0 (.loop impl_NameOk.l0)))
  (.seq (.reg [⟨some 32, .mv (.t 0), none⟩,
    ⟨some 33, .slen (.t 32), none⟩,
    ⟨some 34, .call 101 [.t 33, .k (.int .i64 1), .k (.int .i64 12)] [] [], none⟩,
    ⟨some 2, .mv (.t 34), none⟩] [2] [])
  (.ret)))
def impl_NameOk.m : Fn := { np := 1, body := impl_NameOk.b, res := [.tmp 2] }
def impl_NameOk.k (M : Nat → Option Body) : Prop := M 89 = some (.code impl_NameOk.m) ∧ impl_within.k M
def spec_NameOk.l0 : C := .seq (.seq (.reg [⟨some 4, .mv (.t 3), none⟩,
    ⟨some 5, .mv (.t 0), none⟩,
    ⟨some 6, .slen (.t 5), none⟩,
    ⟨some 7, .bin .lss (.t 4) (.t 6), none⟩] [0, 3, 7] [])
  (.cond (.t 7) (.skip) (.exit 0)))
  (.seq (.block 1 (.seq (.reg [⟨some 10, .mv (.t 0), none⟩,
    ⟨some 11, .mv (.t 3), none⟩,
    ⟨some 12, .idx (.t 10) (.t 11), none⟩,
    ⟨some 13, .bin .lss (.t 12) (.k (.int .u8 97)), none⟩,
    ⟨some 14, .mv (.t 13), none⟩,
    ⟨some 15, .mv (.t 0), some (14, false)⟩,
    ⟨some 16, .mv (.t 3), some (14, false)⟩,
    ⟨some 17, .idx (.t 15) (.t 16), some (14, false)⟩,
    ⟨some 18, .bin .gtr (.t 17) (.k (.int .u8 122)), some (14, false)⟩,
    ⟨some 19, .pick (.t 14) (.k (.bool true)) (.t 18), none⟩,
    ⟨some 20, .mv (.t 19), none⟩,
    ⟨some 21, .mv (.t 0), some (20, true)⟩,
    ⟨some 22, .mv (.t 3), some (20, true)⟩,
    ⟨some 23, .idx (.t 21) (.t 22), some (20, true)⟩,
    ⟨some 24, .bin .lss (.t 23) (.k (.int .u8 48)), some (20, true)⟩,
    ⟨some 25, .mv (.t 24), some (20, true)⟩,
    ⟨some 26, .mv (.t 0), some (25, false)⟩,
    ⟨some 27, .mv (.t 3), some (25, false)⟩,
    ⟨some 28, .idx (.t 26) (.t 27), some (25, false)⟩,
    ⟨some 29, .bin .gtr (.t 28) (.k (.int .u8 57)), some (25, false)⟩,
    ⟨some 30, .pick (.t 25) (.k (.bool true)) (.t 29), some (20, true)⟩,
    ⟨some 31, .pick (.t 20) (.t 30) (.k (.bool false)), none⟩] [0, 3, 31] [])
  (.cond (.t 31) (.seq (.reg [⟨some 2, .mv (.k (.bool false)), none⟩] [2] [])
  (.ret)) (.skip))))
  (.reg [⟨some 8, .mv (.t 3), none⟩,
    ⟨some 9, .bin .add (.t 8) (.k (.int .i64 1)), none⟩,
    ⟨some 3, .mv (.t 9), none⟩] [0, 3] []))
def spec_NameOk.b : C := .seq (.reg [⟨some 2, .mv (.k (.bool false)), none⟩] [0] [])
  (.seq (.seq (.reg [⟨some 3, .mv (.k (.int .i64 0)), none⟩] [0, 3] [])
  (.block 0 (.loop spec_NameOk.l0)))
  (.seq (.reg [⟨some 32, .mv (.t 0), none⟩,
    ⟨some 33, .slen (.t 32), none⟩,
    ⟨some 34, .call 98 [.t 33, .k (.int .i64 1), .k (.int .i64 12)] [] [], none⟩,
    ⟨some 2, .mv (.t 34), none⟩] [2] [])
  (.ret)))
def spec_NameOk.m : Fn := { np := 1, body := spec_NameOk.b, res := [.tmp 2] }
def spec_NameOk.k (M : Nat → Option Body) : Prop := M 90 = some (.code spec_NameOk.m) ∧ spec_l01In.k M
def impl_areGids.l0 : C := .seq (.reg [⟨some 10, .bin .lss (.t 9) (.t 8), none⟩] [0, 1, 7, 8, 9, 10] [])
  (.seq (.cond (.t 10) (.skip) (.exit 0))
  (.seq (.block 1 (.seq (.reg [⟨some 11, .mv (.t 9), none⟩,
    ⟨some 12, .iaddr 1 (.t 7) (.t 9), none⟩,
    ⟨some 13, .load false 1 (.t 12), none⟩,
    ⟨some 5, .mv (.t 11), none⟩,
    ⟨some 6, .mv (.t 13), none⟩] [0, 1, 5, 6, 7, 8, 9] [])
  (.seq (.reg [⟨some 14, .mv (.t 6), none⟩,
    ⟨some 15, .call 147 [.t 14] [] [], none⟩,
    ⟨some 16, .not (.t 15), none⟩,
    ⟨some 17, .mv (.t 16), none⟩,
    ⟨some 18, .mv (.t 5), some (17, false)⟩,
    ⟨some 19, .bin .gtr (.t 18) (.k (.int .i64 0)), some (17, false)⟩,
    ⟨some 20, .mv (.t 19), some (17, false)⟩,
    ⟨some 21, .mv (.t 0), some (20, true)⟩,
    ⟨some 22, .mv (.t 5), some (20, true)⟩,
    ⟨some 23, .bin .sub (.t 22) (.k (.int .i64 1)), some (20, true)⟩,
    ⟨some 24, .iaddr 1 (.t 21) (.t 23), some (20, true)⟩,
    ⟨some 25, .load false 1 (.t 24), some (20, true)⟩,
    ⟨some 26, .mv (.t 6), some (20, true)⟩,
    ⟨some 27, .bin .geq (.t 25) (.t 26), some (20, true)⟩,
    ⟨some 28, .pick (.t 20) (.t 27) (.k (.bool false)), some (17, false)⟩,
    ⟨some 29, .pick (.t 17) (.k (.bool true)) (.t 28), none⟩] [0, 1, 7, 8, 9, 29] [])
  (.cond (.t 29) (.seq (.reg [⟨some 4, .mv (.k (.bool false)), none⟩] [4] [])
  (.ret)) (.skip)))))
  (.reg [⟨some 30, .bin .add (.t 9) (.k (.int .i64 1)), none⟩,
    ⟨some 9, .mv (.t 30), none⟩] [0, 1, 7, 8, 9] [])))
def impl_areGids.b : C := .seq (.reg [⟨some 4, .mv (.k (.bool false)), none⟩] [0, 1] [])
  (.seq (.seq (.reg [⟨some 7, .mv (.t 0), none⟩,
    ⟨some 8, .len (.t 7), none⟩,
    ⟨some 9, .mv (.k (.int .i64 0)), none⟩] [0, 1, 7, 8, 9] [])
  (.block 0 (.loop impl_areGids.l0)))
  (.seq (.reg [⟨some 31, .mv (.t 0), none⟩,
    ⟨some 32, .len (.t 31), none⟩,
    ⟨some 33, .mv (.t 1), none⟩,
    ⟨some 34, .bin .leq (.t 32) (.t 33), none⟩,
    ⟨some 4, .mv (.t 34), none⟩] [4] [])
  (.ret)))
def impl_areGids.m : Fn := { np := 2, body := impl_areGids.b, res := [.tmp 4] }
def impl_areGids.k (M : Nat → Option Body) : Prop := M 165 = some (.code impl_areGids.m) ∧ impl_isGid.k M
def spec_l06Sorted.l0 : C := .seq (.seq (.reg [⟨some 6, .mv (.t 5), none⟩,
    ⟨some 7, .mv (.t 0), none⟩,
    ⟨some 8, .len (.t 7), none⟩,
    ⟨some 9, .bin .lss (.t 6) (.t 8), none⟩] [0, 1, 5, 9] [])
  (.cond (.t 9) (.skip) (.exit 0)))
  (.seq (.block 1 (.seq (.regd [⟨some 12, .mv (.t 0), none⟩,
    ⟨some 13, .mv (.t 5), none⟩,
    ⟨some 14, .iaddr 1 (.t 12) (.t 13), none⟩,
    ⟨some 15, .load false 1 (.t 14), none⟩,
    ⟨some 16, .call 98 [.t 15, .k (.int .i64 1), .k (.int .i64 9999)] [] [], none⟩,
    ⟨some 17, .not (.t 16), none⟩,
    ⟨some 18, .mv (.t 17), none⟩,
    ⟨some 19, .mv (.t 5), some (18, false)⟩,
    ⟨some 20, .bin .gtr (.t 19) (.k (.int .i64 0)), some (18, false)⟩,
    ⟨some 21, .mv (.t 20), some (18, false)⟩,
    ⟨some 22, .mv (.t 0), some (21, true)⟩,
    ⟨some 23, .mv (.t 5), some (21, true)⟩,
    ⟨some 24, .bin .sub (.t 23) (.k (.int .i64 1)), some (21, true)⟩,
    ⟨some 25, .iaddr 1 (.t 22) (.t 24), some (21, true)⟩,
    ⟨some 26, .load false 1 (.t 25), some (21, true)⟩,
    ⟨some 27, .mv (.t 0), some (21, true)⟩,
    ⟨some 28, .mv (.t 5), some (21, true)⟩,
    ⟨some 29, .iaddr 1 (.t 27) (.t 28), some (21, true)⟩,
    ⟨some 30, .load false 1 (.t 29), some (21, true)⟩,
    ⟨some 31, .bin .geq (.t 26) (.t 30), some (21, true)⟩,
    ⟨some 32, .pick (.t 21) (.t 31) (.k (.bool false)), some (18, false)⟩,
    ⟨some 33, .pick (.t 18) (.k (.bool true)) (.t 32), none⟩] [[], [], [0, 1], [0, 1, 2], [0, 1, 2, 3], [0, 1, 2, 3, 4], [0, 1, 2, 3, 4, 5], [0, 1, 2, 3, 4, 5, 6], [0, 1, 2, 3, 4, 5, 6, 7], [0, 1, 2, 3, 4, 5, 6, 7, 8], [0, 1, 2, 3, 4, 5, 6, 7, 8, 9], [0, 1, 2, 3, 4, 5, 6, 7, 8, 9], [0, 1, 2, 3, 4, 5, 6, 7, 8, 9, 11], [0, 1, 2, 3, 4, 5, 6, 7, 8, 9, 10, 11, 12], [0, 1, 2, 3, 4, 5, 6, 7, 8, 9, 10, 11, 12, 13], [0, 1, 2, 3, 4, 5, 6, 7, 8, 9], [0, 1, 2, 3, 4, 5, 6, 7, 8, 9], [0, 1, 2, 3, 4, 5, 6, 7, 8, 9, 15, 16], [0, 1, 2, 3, 4, 5, 6, 7, 8, 9, 15, 16, 17], [0, 1, 2, 3, 4, 5, 6, 7, 8, 9, 10, 11, 12, 13, 14, 15, 16, 17, 18], [0, 1, 2, 3, 4, 5, 6, 7, 8, 9, 10, 11, 12, 13, 14, 15, 16, 17, 18, 19], [0, 1, 2, 3, 4, 5, 6, 7, 8, 9, 10, 11, 12, 13, 14, 15, 16, 17, 18, 19, 20]] [0, 1, 5, 33] [])
  (.cond (.t 33) (.seq (.reg [⟨some 4, .mv (.k (.bool false)), none⟩] [4] [])
  (.ret)) (.skip))))
  (.reg [⟨some 10, .mv (.t 5), none⟩,
    ⟨some 11, .bin .add (.t 10) (.k (.int .i64 1)), none⟩,
    ⟨some 5, .mv (.t 11), none⟩] [0, 1, 5] []))
def spec_l06Sorted.b : C := .seq (.reg [⟨some 4, .mv (.k (.bool false)), none⟩] [0, 1] [])
  (.seq (.seq (.reg [⟨some 5, .mv (.k (.int .i64 0)), none⟩] [0, 1, 5] [])
  (.block 0 (.loop spec_l06Sorted.l0)))
  (.seq (.reg [⟨some 34, .mv (.t 0), none⟩,
    ⟨some 35, .len (.t 34), none⟩,
    ⟨some 36, .mv (.t 1), none⟩,
    ⟨some 37, .bin .leq (.t 35) (.t 36), none⟩,
    ⟨some 4, .mv (.t 37), none⟩] [4] [])
  (.ret)))
def spec_l06Sorted.m : Fn := { np := 2, body := spec_l06Sorted.b, res := [.tmp 4] }
def spec_l06Sorted.k (M : Nat → Option Body) : Prop := M 186 = some (.code spec_l06Sorted.m) ∧ spec_l01In.k M
def spec_l06In.l0 : C := .seq (.seq (.reg [⟨some 6, .mv (.t 5), none⟩,
    ⟨some 7, .mv (.t 0), none⟩,
    ⟨some 8, .len (.t 7), none⟩,
    ⟨some 9, .bin .lss (.t 6) (.t 8), none⟩] [0, 1, 5, 9] [])
  (.cond (.t 9) (.skip) (.exit 0)))
  (.seq (.block 1 (.seq (.reg [⟨some 12, .mv (.t 0), none⟩,
    ⟨some 13, .mv (.t 5), none⟩,
    ⟨some 14, .iaddr 1 (.t 12) (.t 13), none⟩,
    ⟨some 15, .load false 1 (.t 14), none⟩,
    ⟨some 16, .mv (.t 1), none⟩,
    ⟨some 17, .bin .eql (.t 15) (.t 16), none⟩] [0, 1, 5, 17] [])
  (.cond (.t 17) (.seq (.reg [⟨some 4, .mv (.k (.bool true)), none⟩] [4] [])
  (.ret)) (.skip))))
  (.reg [⟨some 10, .mv (.t 5), none⟩,
    ⟨some 11, .bin .add (.t 10) (.k (.int .i64 1)), none⟩,
    ⟨some 5, .mv (.t 11), none⟩] [0, 1, 5] []))
def spec_l06In.b : C := .seq (.reg [⟨some 4, .mv (.k (.bool false)), none⟩] [0, 1] [])
  (.seq (.seq (.reg [⟨some 5, .mv (.k (.int .i64 0)), none⟩] [0, 1, 5] [])
  (.block 0 (.loop spec_l06In.l0)))
  (.seq (.reg [⟨some 4, .mv (.k (.bool false)), none⟩] [4] [])
  (.ret)))
def spec_l06In.m : Fn := { np := 2, body := spec_l06In.b, res := [.tmp 4] }
def spec_l06In.k (M : Nat → Option Body) : Prop := M 132 = some (.code spec_l06In.m)
def slices_Index_int_int.l0 : C := .seq (.reg [⟨some 9, .bin .lss (.t 8) (.t 7), none⟩] [0, 1, 7, 8, 9] [])
  (.seq (.cond (.t 9) (.skip) (.exit 0))
  (.seq (.block 1 (.seq (.reg [⟨some 10, .mv (.t 8), none⟩,
    ⟨some 5, .mv (.t 10), none⟩] [0, 1, 5, 7, 8] [])
  (.seq (.reg [⟨some 11, .mv (.t 1), none⟩,
    ⟨some 12, .mv (.t 0), none⟩,
    ⟨some 13, .mv (.t 5), none⟩,
    ⟨some 14, .iaddr 1 (.t 12) (.t 13), none⟩,
    ⟨some 15, .load false 1 (.t 14), none⟩,
    ⟨some 16, .bin .eql (.t 11) (.t 15), none⟩] [0, 1, 5, 7, 8, 16] [])
  (.cond (.t 16) (.seq (.reg [⟨some 17, .mv (.t 5), none⟩,
    ⟨some 4, .mv (.t 17), none⟩] [4] [])
  (.ret)) (.skip)))))
  (.reg [⟨some 18, .bin .add (.t 8) (.k (.int .i64 1)), none⟩,
    ⟨some 8, .mv (.t 18), none⟩] [0, 1, 7, 8] [])))
def slices_Index_int_int.b : C := .seq (.reg [⟨some 4, .mv (.k (.int .i64 0)), none⟩] [0, 1] [])
  (.seq (.seq (.reg [⟨some 6, .mv (.t 0), none⟩,
    ⟨some 7, .len (.t 6), none⟩,
    ⟨some 8, .mv (.k (.int .i64 0)), none⟩] [0, 1, 7, 8] [])
  (.block 0 (.loop slices_Index_int_int.l0)))
  (.seq (.reg [⟨some 4, .mv (.k (.int .i64 (-1))), none⟩] [4] [])
  (.ret)))
def slices_Index_int_int.m : Fn := { np := 2, body := slices_Index_int_int.b, res := [.tmp 4] }
def slices_Index_int_int.k (M : Nat → Option Body) : Prop := M 234 = some (.code slices_Index_int_int.m)
def slices_Contains_int_int.b : C := .seq (.reg [⟨some 4, .mv (.k (.bool false)), none⟩] [0, 1] [])
  (.seq (.reg [⟨some 5, .mv (.t 0), none⟩,
    ⟨some 6, .mv (.t 1), none⟩,
    ⟨some 7, .call 234 [.t 5, .t 6] [] [], none⟩,
    ⟨some 8, .bin .geq (.t 7) (.k (.int .i64 0)), none⟩,
    ⟨some 4, .mv (.t 8), none⟩] [4] [])
  (.ret))
def slices_Contains_int_int.m : Fn := { np := 2, body := slices_Contains_int_int.b, res := [.tmp 4] }
def slices_Contains_int_int.k (M : Nat → Option Body) : Prop := M 156 = some (.code slices_Contains_int_int.m) ∧ slices_Index_int_int.k M
def impl_BoxOk.l0 : C := .seq (.reg [⟨some 43, .bin .lss (.t 42) (.t 41), none⟩] [1, 40, 41, 42, 43] [1])
  (.seq (.cond (.t 43) (.skip) (.exit 0))
  (.seq (.block 1 (.seq (.reg [⟨some 44, .mv (.t 42), none⟩,
    ⟨some 45, .iaddr 4 (.t 40) (.t 42), none⟩,
    ⟨some 46, .load true 4 (.t 45), none⟩,
    ⟨some 4, .alloc [.int .i64 0, .int .i64 0, .nils 3, .str ⟨#[]⟩], none⟩,
    ⟨some 3, .mv (.t 44), none⟩,
    ⟨none, .store 4 (.t 4) (.t 46), none⟩] [1, 3, 4, 40, 41, 42] [1, 4])
  (.seq (.regd [⟨some 47, .load true 4 (.t 4), none⟩,
    ⟨some 48, .call 166 [.t 47] [] [], none⟩,
    ⟨some 49, .not (.t 48), none⟩,
    ⟨some 50, .mv (.t 49), none⟩,
    ⟨some 51, .faddr 1 (.t 4), some (50, false)⟩,
    ⟨some 52, .load false 1 (.t 51), some (50, false)⟩,
    ⟨some 53, .faddr 4 (.t 1), some (50, false)⟩,
    ⟨some 54, .load false 1 (.t 53), some (50, false)⟩,
    ⟨some 55, .bin .geq (.t 52) (.t 54), some (50, false)⟩,
    ⟨some 56, .pick (.t 50) (.k (.bool true)) (.t 55), none⟩,
    ⟨some 57, .mv (.t 56), none⟩,
    ⟨some 58, .mv (.t 3), some (57, false)⟩,
    ⟨some 59, .bin .gtr (.t 58) (.k (.int .i64 0)), some (57, false)⟩,
    ⟨some 60, .mv (.t 59), some (57, false)⟩,
    ⟨some 61, .faddr 5 (.t 1), some (60, true)⟩,
    ⟨some 62, .load false 1 (.t 61), some (60, true)⟩,
    ⟨some 63, .mv (.t 3), some (60, true)⟩,
    ⟨some 64, .bin .sub (.t 63) (.k (.int .i64 1)), some (60, true)⟩,
    ⟨some 65, .iaddr 4 (.t 62) (.t 64), some (60, true)⟩,
    ⟨some 66, .faddr 1 (.t 65), some (60, true)⟩,
    ⟨some 67, .load false 1 (.t 66), some (60, true)⟩,
    ⟨some 68, .faddr 1 (.t 4), some (60, true)⟩,
    ⟨some 69, .load false 1 (.t 68), some (60, true)⟩,
    ⟨some 70, .bin .geq (.t 67) (.t 69), some (60, true)⟩,
    ⟨some 71, .pick (.t 60) (.t 70) (.k (.bool false)), some (57, false)⟩,
    ⟨some 72, .pick (.t 57) (.k (.bool true)) (.t 71), none⟩,
    ⟨some 73, .mv (.t 72), none⟩,
    ⟨some 74, .load true 7 (.t 1), some (73, false)⟩,
    ⟨some 75, .faddr 0 (.t 4), some (73, false)⟩,
    ⟨some 76, .load false 1 (.t 75), some (73, false)⟩,
    ⟨some 77, .call 72 [.t 74, .t 76] [] [], some (73, false)⟩,
    ⟨some 78, .mv (.t 3), some (73, false)⟩,
    ⟨some 79, .bin .neq (.t 77) (.t 78), some (73, false)⟩,
    ⟨some 80, .pick (.t 73) (.k (.bool true)) (.t 79), none⟩,
    ⟨some 81, .mv (.t 80), none⟩,
    ⟨some 82, .faddr 6 (.t 1), some (81, false)⟩,
    ⟨some 83, .load false 1 (.t 82), some (81, false)⟩,
    ⟨some 84, .faddr 0 (.t 4), some (81, false)⟩,
    ⟨some 85, .load false 1 (.t 84), some (81, false)⟩,
    ⟨some 86, .call 156 [.t 83, .t 85] [] [], some (81, false)⟩,
    ⟨some 87, .pick (.t 81) (.k (.bool true)) (.t 86), none⟩] [[], [0], [0, 1], [0, 1, 2], [0, 1, 2, 3], [0, 1, 2, 3, 4], [0, 1, 2, 3], [0, 1, 2, 3, 6], [0, 1, 2, 3, 4, 5, 6, 7], [0, 1, 2, 3, 4, 5, 6, 7, 8], [0, 1, 2, 3, 4, 5, 6, 7, 8, 9], [0, 1, 2, 3, 4, 5, 6, 7, 8, 9, 10], [0, 1, 2, 3, 4, 5, 6, 7, 8, 9, 10, 11], [0, 1, 2, 3, 4, 5, 6, 7, 8, 9, 10, 11, 12], [0, 1, 2, 3, 4, 5, 6, 7, 8, 9, 10, 11, 12, 13], [0, 1, 2, 3, 4, 5, 6, 7, 8, 9, 10, 11, 12, 13, 14], [0, 1, 2, 3, 4, 5, 6, 7, 8, 9, 10, 11, 12, 13], [0, 1, 2, 3, 4, 5, 6, 7, 8, 9, 10, 11, 12, 13, 16], [0, 1, 2, 3, 4, 5, 6, 7, 8, 9, 10, 11, 12, 13, 14, 15, 16, 17], [0, 1, 2, 3, 4, 5, 6, 7, 8, 9, 10, 11, 12, 13, 14, 15, 16, 17, 18], [0, 1, 2, 3, 4, 5, 6, 7, 8, 9, 10, 11, 12, 13, 14, 15, 16, 17, 18, 19], [0, 1, 2, 3, 4, 5, 6, 7, 8, 9, 10, 11, 12, 13], [0, 1, 2, 3, 4, 5, 6, 7, 8, 9, 10, 11, 12, 13, 21], [0, 1, 2, 3, 4, 5, 6, 7, 8, 9, 10, 11, 12, 13, 14, 15, 16, 17, 18, 19, 20, 21, 22], [0, 1, 2, 3, 4, 5, 6, 7, 8, 9, 10, 11, 12, 13, 14, 15, 16, 17, 18, 19, 20, 21, 22, 23], [0, 1, 2, 3, 4, 5, 6, 7, 8, 9, 10, 11, 12, 13, 14, 15, 16, 17, 18, 19, 20, 21, 22, 23, 24], [0, 1, 2, 3, 4, 5, 6, 7, 8, 9, 10, 11, 12, 13, 14, 15, 16, 17, 18, 19, 20, 21, 22, 23, 24, 25], [0, 1, 2, 3, 4, 5, 6, 7, 8, 9, 10, 11, 12, 13, 14, 15, 16, 17, 18, 19, 20, 21, 22, 23, 24, 25, 26], [0, 1, 2, 3, 4, 5, 6, 7, 8, 9, 10, 11, 12, 13, 14, 15, 16, 17, 18, 19, 20, 21, 22, 23, 24, 25, 26], [0, 1, 2, 3, 4, 5, 6, 7, 8, 9, 10, 11, 12, 13, 14, 15, 16, 17, 18, 19, 20, 21, 22, 23, 24, 25, 26, 28], [0, 1, 2, 3, 4, 5, 6, 7, 8, 9, 10, 11, 12, 13, 14, 15, 16, 17, 18, 19, 20, 21, 22, 23, 24, 25, 26, 27, 28, 29], [0, 1, 2, 3, 4, 5, 6, 7, 8, 9, 10, 11, 12, 13, 14, 15, 16, 17, 18, 19, 20, 21, 22, 23, 24, 25, 26], [0, 1, 2, 3, 4, 5, 6, 7, 8, 9, 10, 11, 12, 13, 14, 15, 16, 17, 18, 19, 20, 21, 22, 23, 24, 25, 26, 27, 28, 29, 30, 31], [0, 1, 2, 3, 4, 5, 6, 7, 8, 9, 10, 11, 12, 13, 14, 15, 16, 17, 18, 19, 20, 21, 22, 23, 24, 25, 26, 27, 28, 29, 30, 31, 32], [0, 1, 2, 3, 4, 5, 6, 7, 8, 9, 10, 11, 12, 13, 14, 15, 16, 17, 18, 19, 20, 21, 22, 23, 24, 25, 26, 27, 28, 29, 30, 31, 32, 33], [0, 1, 2, 3, 4, 5, 6, 7, 8, 9, 10, 11, 12, 13, 14, 15, 16, 17, 18, 19, 20, 21, 22, 23, 24, 25, 26, 27, 28, 29, 30, 31, 32, 33, 34], [0, 1, 2, 3, 4, 5, 6, 7, 8, 9, 10, 11, 12, 13, 14, 15, 16, 17, 18, 19, 20, 21, 22, 23, 24, 25, 26, 27, 28, 29, 30, 31, 32, 33, 34, 35], [0, 1, 2, 3, 4, 5, 6, 7, 8, 9, 10, 11, 12, 13, 14, 15, 16, 17, 18, 19, 20, 21, 22, 23, 24, 25, 26, 27, 28, 29, 30, 31, 32, 33, 34], [0, 1, 2, 3, 4, 5, 6, 7, 8, 9, 10, 11, 12, 13, 14, 15, 16, 17, 18, 19, 20, 21, 22, 23, 24, 25, 26, 27, 28, 29, 30, 31, 32, 33, 34, 37], [0, 1, 2, 3, 4, 5, 6, 7, 8, 9, 10, 11, 12, 13, 14, 15, 16, 17, 18, 19, 20, 21, 22, 23, 24, 25, 26, 27, 28, 29, 30, 31, 32, 33, 34, 35, 36, 37, 38], [0, 1, 2, 3, 4, 5, 6, 7, 8, 9, 10, 11, 12, 13, 14, 15, 16, 17, 18, 19, 20, 21, 22, 23, 24, 25, 26, 27, 28, 29, 30, 31, 32, 33, 34, 35, 36, 37, 38, 39]] [1, 40, 41, 42, 87] [1])
  (.cond (.t 87) (.seq (.reg [⟨some 2, .mv (.k (.bool false)), none⟩] [2] [])
  (.ret)) (.skip)))))
  (.reg [⟨some 88, .bin .add (.t 42) (.k (.int .i64 1)), none⟩,
    ⟨some 42, .mv (.t 88), none⟩] [1, 40, 41, 42] [1])))
def impl_BoxOk.b : C := .seq (.reg [⟨some 1, .box (.t 0), none⟩,
    ⟨some 2, .mv (.k (.bool false)), none⟩] [1] [1])
  (.seq (.seq (.reg [⟨some 5, .faddr 0 (.t 1), none⟩,
    ⟨some 6, .load false 1 (.t 5), none⟩,
    ⟨some 7, .call 147 [.t 6] [] [], none⟩,
    ⟨some 8, .not (.t 7), none⟩,
    ⟨some 9, .mv (.t 8), none⟩,
    ⟨some 10, .faddr 1 (.t 1), some (9, false)⟩,
    ⟨some 11, .load false 1 (.t 10), some (9, false)⟩,
    ⟨some 12, .call 89 [.t 11] [] [], some (9, false)⟩,
    ⟨some 13, .not (.t 12), some (9, false)⟩,
    ⟨some 14, .pick (.t 9) (.k (.bool true)) (.t 13), none⟩,
    ⟨some 15, .mv (.t 14), none⟩,
    ⟨some 16, .faddr 2 (.t 1), some (15, false)⟩,
    ⟨some 17, .load true 2 (.t 16), some (15, false)⟩,
    ⟨some 18, .call 164 [.t 17] [] [], some (15, false)⟩,
    ⟨some 19, .not (.t 18), some (15, false)⟩,
    ⟨some 20, .pick (.t 15) (.k (.bool true)) (.t 19), none⟩,
    ⟨some 21, .mv (.t 20), none⟩,
    ⟨some 22, .faddr 4 (.t 1), some (21, false)⟩,
    ⟨some 23, .load false 1 (.t 22), some (21, false)⟩,
    ⟨some 24, .call 101 [.t 23, .k (.int .i64 1), .k (.int .i64 10000)] [] [], some (21, false)⟩,
    ⟨some 25, .not (.t 24), some (21, false)⟩,
    ⟨some 26, .pick (.t 21) (.k (.bool true)) (.t 25), none⟩,
    ⟨some 27, .mv (.t 26), none⟩,
    ⟨some 28, .faddr 5 (.t 1), some (27, false)⟩,
    ⟨some 29, .load false 1 (.t 28), some (27, false)⟩,
    ⟨some 30, .len (.t 29), some (27, false)⟩,
    ⟨some 31, .bin .gtr (.t 30) (.k (.int .i64 10)), some (27, false)⟩,
    ⟨some 32, .pick (.t 27) (.k (.bool true)) (.t 31), none⟩,
    ⟨some 33, .mv (.t 32), none⟩,
    ⟨some 34, .faddr 6 (.t 1), some (33, false)⟩,
    ⟨some 35, .load false 1 (.t 34), some (33, false)⟩,
    ⟨some 36, .call 165 [.t 35, .k (.int .i64 40)] [] [], some (33, false)⟩,
    ⟨some 37, .not (.t 36), some (33, false)⟩,
    ⟨some 38, .pick (.t 33) (.k (.bool true)) (.t 37), none⟩] [1, 38] [1])
  (.cond (.t 38) (.seq (.reg [⟨some 2, .mv (.k (.bool false)), none⟩] [2] [])
  (.ret)) (.skip)))
  (.seq (.seq (.reg [⟨some 39, .faddr 5 (.t 1), none⟩,
    ⟨some 40, .load false 1 (.t 39), none⟩,
    ⟨some 41, .len (.t 40), none⟩,
    ⟨some 42, .mv (.k (.int .i64 0)), none⟩] [1, 40, 41, 42] [1])
  (.block 0 (.loop impl_BoxOk.l0)))
  (.seq (.reg [⟨some 2, .mv (.k (.bool true)), none⟩] [2] [])
  (.ret))))
def impl_BoxOk.m : Fn := { np := 1, body := impl_BoxOk.b, res := [.tmp 2] }
def impl_BoxOk.k (M : Nat → Option Body) : Prop := M 74 = some (.code impl_BoxOk.m) ∧ impl_MailAt.k M ∧ impl_NameOk.k M ∧ impl_within.k M ∧ impl_isGid.k M ∧ slices_Contains_int_int.k M ∧ impl_StampOk.k M ∧ impl_areGids.k M ∧ impl_MailOk.k M
def spec_BoxOk.l0 : C := .seq (.seq (.reg [⟨some 39, .mv (.t 3), none⟩,
    ⟨some 40, .faddr 5 (.t 1), none⟩,
    ⟨some 41, .load false 1 (.t 40), none⟩,
    ⟨some 42, .len (.t 41), none⟩,
    ⟨some 43, .bin .lss (.t 39) (.t 42), none⟩] [1, 3, 43] [1])
  (.cond (.t 43) (.skip) (.exit 0)))
  (.seq (.block 1 (.seq (.reg [⟨some 46, .faddr 5 (.t 1), none⟩,
    ⟨some 47, .load false 1 (.t 46), none⟩,
    ⟨some 48, .mv (.t 3), none⟩,
    ⟨some 49, .iaddr 4 (.t 47) (.t 48), none⟩,
    ⟨some 50, .load true 4 (.t 49), none⟩,
    ⟨some 4, .alloc [.int .i64 0, .int .i64 0, .nils 3, .str ⟨#[]⟩], none⟩,
    ⟨none, .store 4 (.t 4) (.t 50), none⟩] [1, 3, 4] [1, 4])
  (.seq (.regd [⟨some 51, .load true 4 (.t 4), none⟩,
    ⟨some 52, .call 187 [.t 51] [] [], none⟩,
    ⟨some 53, .not (.t 52), none⟩,
    ⟨some 54, .mv (.t 53), none⟩,
    ⟨some 55, .faddr 1 (.t 4), some (54, false)⟩,
    ⟨some 56, .load false 1 (.t 55), some (54, false)⟩,
    ⟨some 57, .faddr 4 (.t 1), some (54, false)⟩,
    ⟨some 58, .load false 1 (.t 57), some (54, false)⟩,
    ⟨some 59, .bin .geq (.t 56) (.t 58), some (54, false)⟩,
    ⟨some 60, .pick (.t 54) (.k (.bool true)) (.t 59), none⟩,
    ⟨some 61, .mv (.t 60), none⟩,
    ⟨some 62, .mv (.t 3), some (61, false)⟩,
    ⟨some 63, .bin .gtr (.t 62) (.k (.int .i64 0)), some (61, false)⟩,
    ⟨some 64, .mv (.t 63), some (61, false)⟩,
    ⟨some 65, .faddr 5 (.t 1), some (64, true)⟩,
    ⟨some 66, .load false 1 (.t 65), some (64, true)⟩,
    ⟨some 67, .mv (.t 3), some (64, true)⟩,
    ⟨some 68, .bin .sub (.t 67) (.k (.int .i64 1)), some (64, true)⟩,
    ⟨some 69, .iaddr 4 (.t 66) (.t 68), some (64, true)⟩,
    ⟨some 70, .faddr 1 (.t 69), some (64, true)⟩,
    ⟨some 71, .load false 1 (.t 70), some (64, true)⟩,
    ⟨some 72, .faddr 1 (.t 4), some (64, true)⟩,
    ⟨some 73, .load false 1 (.t 72), some (64, true)⟩,
    ⟨some 74, .bin .geq (.t 71) (.t 73), some (64, true)⟩,
    ⟨some 75, .pick (.t 64) (.t 74) (.k (.bool false)), some (61, false)⟩,
    ⟨some 76, .pick (.t 61) (.k (.bool true)) (.t 75), none⟩,
    ⟨some 77, .mv (.t 76), none⟩,
    ⟨some 78, .faddr 6 (.t 1), some (77, false)⟩,
    ⟨some 79, .load false 1 (.t 78), some (77, false)⟩,
    ⟨some 80, .faddr 0 (.t 4), some (77, false)⟩,
    ⟨some 81, .load false 1 (.t 80), some (77, false)⟩,
    ⟨some 82, .call 132 [.t 79, .t 81] [] [], some (77, false)⟩,
    ⟨some 83, .pick (.t 77) (.k (.bool true)) (.t 82), none⟩,
    ⟨some 84, .mv (.t 83), none⟩,
    ⟨some 85, .load true 7 (.t 1), some (84, false)⟩,
    ⟨some 86, .faddr 0 (.t 4), some (84, false)⟩,
    ⟨some 87, .load false 1 (.t 86), some (84, false)⟩,
    ⟨some 88, .call 91 [.t 85, .t 87] [] [], some (84, false)⟩,
    ⟨some 89, .mv (.t 3), some (84, false)⟩,
    ⟨some 90, .bin .neq (.t 88) (.t 89), some (84, false)⟩,
    ⟨some 91, .pick (.t 84) (.k (.bool true)) (.t 90), none⟩] [[], [0], [0, 1], [0, 1, 2], [0, 1, 2, 3], [0, 1, 2, 3, 4], [0, 1, 2, 3], [0, 1, 2, 3, 6], [0, 1, 2, 3, 4, 5, 6, 7], [0, 1, 2, 3, 4, 5, 6, 7, 8], [0, 1, 2, 3, 4, 5, 6, 7, 8, 9], [0, 1, 2, 3, 4, 5, 6, 7, 8, 9, 10], [0, 1, 2, 3, 4, 5, 6, 7, 8, 9, 10, 11], [0, 1, 2, 3, 4, 5, 6, 7, 8, 9, 10, 11, 12], [0, 1, 2, 3, 4, 5, 6, 7, 8, 9, 10, 11, 12, 13], [0, 1, 2, 3, 4, 5, 6, 7, 8, 9, 10, 11, 12, 13, 14], [0, 1, 2, 3, 4, 5, 6, 7, 8, 9, 10, 11, 12, 13], [0, 1, 2, 3, 4, 5, 6, 7, 8, 9, 10, 11, 12, 13, 16], [0, 1, 2, 3, 4, 5, 6, 7, 8, 9, 10, 11, 12, 13, 14, 15, 16, 17], [0, 1, 2, 3, 4, 5, 6, 7, 8, 9, 10, 11, 12, 13, 14, 15, 16, 17, 18], [0, 1, 2, 3, 4, 5, 6, 7, 8, 9, 10, 11, 12, 13, 14, 15, 16, 17, 18, 19], [0, 1, 2, 3, 4, 5, 6, 7, 8, 9, 10, 11, 12, 13], [0, 1, 2, 3, 4, 5, 6, 7, 8, 9, 10, 11, 12, 13, 21], [0, 1, 2, 3, 4, 5, 6, 7, 8, 9, 10, 11, 12, 13, 14, 15, 16, 17, 18, 19, 20, 21, 22], [0, 1, 2, 3, 4, 5, 6, 7, 8, 9, 10, 11, 12, 13, 14, 15, 16, 17, 18, 19, 20, 21, 22, 23], [0, 1, 2, 3, 4, 5, 6, 7, 8, 9, 10, 11, 12, 13, 14, 15, 16, 17, 18, 19, 20, 21, 22, 23, 24], [0, 1, 2, 3, 4, 5, 6, 7, 8, 9, 10, 11, 12, 13, 14, 15, 16, 17, 18, 19, 20, 21, 22, 23, 24, 25], [0, 1, 2, 3, 4, 5, 6, 7, 8, 9, 10, 11, 12, 13, 14, 15, 16, 17, 18, 19, 20, 21, 22, 23, 24, 25, 26], [0, 1, 2, 3, 4, 5, 6, 7, 8, 9, 10, 11, 12, 13, 14, 15, 16, 17, 18, 19, 20, 21, 22, 23, 24, 25, 26, 27], [0, 1, 2, 3, 4, 5, 6, 7, 8, 9, 10, 11, 12, 13, 14, 15, 16, 17, 18, 19, 20, 21, 22, 23, 24, 25, 26], [0, 1, 2, 3, 4, 5, 6, 7, 8, 9, 10, 11, 12, 13, 14, 15, 16, 17, 18, 19, 20, 21, 22, 23, 24, 25, 26, 29], [0, 1, 2, 3, 4, 5, 6, 7, 8, 9, 10, 11, 12, 13, 14, 15, 16, 17, 18, 19, 20, 21, 22, 23, 24, 25, 26, 27, 28, 29, 30], [0, 1, 2, 3, 4, 5, 6, 7, 8, 9, 10, 11, 12, 13, 14, 15, 16, 17, 18, 19, 20, 21, 22, 23, 24, 25, 26, 27, 28, 29, 30, 31], [0, 1, 2, 3, 4, 5, 6, 7, 8, 9, 10, 11, 12, 13, 14, 15, 16, 17, 18, 19, 20, 21, 22, 23, 24, 25, 26, 27, 28, 29, 30, 31, 32], [0, 1, 2, 3, 4, 5, 6, 7, 8, 9, 10, 11, 12, 13, 14, 15, 16, 17, 18, 19, 20, 21, 22, 23, 24, 25, 26, 27, 28, 29, 30, 31, 32, 33], [0, 1, 2, 3, 4, 5, 6, 7, 8, 9, 10, 11, 12, 13, 14, 15, 16, 17, 18, 19, 20, 21, 22, 23, 24, 25, 26, 27, 28, 29, 30, 31, 32, 33], [0, 1, 2, 3, 4, 5, 6, 7, 8, 9, 10, 11, 12, 13, 14, 15, 16, 17, 18, 19, 20, 21, 22, 23, 24, 25, 26, 27, 28, 29, 30, 31, 32, 33, 35], [0, 1, 2, 3, 4, 5, 6, 7, 8, 9, 10, 11, 12, 13, 14, 15, 16, 17, 18, 19, 20, 21, 22, 23, 24, 25, 26, 27, 28, 29, 30, 31, 32, 33, 34, 35, 36], [0, 1, 2, 3, 4, 5, 6, 7, 8, 9, 10, 11, 12, 13, 14, 15, 16, 17, 18, 19, 20, 21, 22, 23, 24, 25, 26, 27, 28, 29, 30, 31, 32, 33], [0, 1, 2, 3, 4, 5, 6, 7, 8, 9, 10, 11, 12, 13, 14, 15, 16, 17, 18, 19, 20, 21, 22, 23, 24, 25, 26, 27, 28, 29, 30, 31, 32, 33, 34, 35, 36, 37, 38], [0, 1, 2, 3, 4, 5, 6, 7, 8, 9, 10, 11, 12, 13, 14, 15, 16, 17, 18, 19, 20, 21, 22, 23, 24, 25, 26, 27, 28, 29, 30, 31, 32, 33, 34, 35, 36, 37, 38, 39]] [1, 3, 91] [1])
  (.cond (.t 91) (.seq (.reg [⟨some 2, .mv (.k (.bool false)), none⟩] [2] [])
  (.ret)) (.skip)))))
  (.reg [⟨some 44, .mv (.t 3), none⟩,
    ⟨some 45, .bin .add (.t 44) (.k (.int .i64 1)), none⟩,
    ⟨some 3, .mv (.t 45), none⟩] [1, 3] [1]))
def spec_BoxOk.b : C := .seq (.reg [⟨some 1, .box (.t 0), none⟩,
    ⟨some 2, .mv (.k (.bool false)), none⟩] [1] [1])
  (.seq (.seq (.reg [⟨some 5, .faddr 0 (.t 1), none⟩,
    ⟨some 6, .load false 1 (.t 5), none⟩,
    ⟨some 7, .call 98 [.t 6, .k (.int .i64 1), .k (.int .i64 9999)] [] [], none⟩,
    ⟨some 8, .not (.t 7), none⟩,
    ⟨some 9, .mv (.t 8), none⟩,
    ⟨some 10, .faddr 1 (.t 1), some (9, false)⟩,
    ⟨some 11, .load false 1 (.t 10), some (9, false)⟩,
    ⟨some 12, .call 90 [.t 11] [] [], some (9, false)⟩,
    ⟨some 13, .not (.t 12), some (9, false)⟩,
    ⟨some 14, .pick (.t 9) (.k (.bool true)) (.t 13), none⟩,
    ⟨some 15, .mv (.t 14), none⟩,
    ⟨some 16, .faddr 2 (.t 1), some (15, false)⟩,
    ⟨some 17, .load true 2 (.t 16), some (15, false)⟩,
    ⟨some 18, .call 183 [.t 17] [] [], some (15, false)⟩,
    ⟨some 19, .not (.t 18), some (15, false)⟩,
    ⟨some 20, .pick (.t 15) (.k (.bool true)) (.t 19), none⟩,
    ⟨some 21, .mv (.t 20), none⟩,
    ⟨some 22, .faddr 4 (.t 1), some (21, false)⟩,
    ⟨some 23, .load false 1 (.t 22), some (21, false)⟩,
    ⟨some 24, .call 98 [.t 23, .k (.int .i64 1), .k (.int .i64 10000)] [] [], some (21, false)⟩,
    ⟨some 25, .not (.t 24), some (21, false)⟩,
    ⟨some 26, .pick (.t 21) (.k (.bool true)) (.t 25), none⟩,
    ⟨some 27, .mv (.t 26), none⟩,
    ⟨some 28, .faddr 5 (.t 1), some (27, false)⟩,
    ⟨some 29, .load false 1 (.t 28), some (27, false)⟩,
    ⟨some 30, .len (.t 29), some (27, false)⟩,
    ⟨some 31, .bin .gtr (.t 30) (.k (.int .i64 10)), some (27, false)⟩,
    ⟨some 32, .pick (.t 27) (.k (.bool true)) (.t 31), none⟩,
    ⟨some 33, .mv (.t 32), none⟩,
    ⟨some 34, .faddr 6 (.t 1), some (33, false)⟩,
    ⟨some 35, .load false 1 (.t 34), some (33, false)⟩,
    ⟨some 36, .call 186 [.t 35, .k (.int .i64 40)] [] [], some (33, false)⟩,
    ⟨some 37, .not (.t 36), some (33, false)⟩,
    ⟨some 38, .pick (.t 33) (.k (.bool true)) (.t 37), none⟩] [1, 38] [1])
  (.cond (.t 38) (.seq (.reg [⟨some 2, .mv (.k (.bool false)), none⟩] [2] [])
  (.ret)) (.skip)))
  (.seq (.seq (.reg [⟨some 3, .mv (.k (.int .i64 0)), none⟩] [1, 3] [1])
  (.block 0 (.loop spec_BoxOk.l0)))
  (.seq (.reg [⟨some 2, .mv (.k (.bool true)), none⟩] [2] [])
  (.ret))))
def spec_BoxOk.m : Fn := { np := 1, body := spec_BoxOk.b, res := [.tmp 2] }
def spec_BoxOk.k (M : Nat → Option Body) : Prop := M 88 = some (.code spec_BoxOk.m) ∧ spec_NameOk.k M ∧ spec_MailAt.k M ∧ spec_l01In.k M ∧ spec_l06In.k M ∧ spec_StampOk.k M ∧ spec_l06Sorted.k M ∧ spec_MailOk.k M
def impl_MailText.l0 : C := .seq (.reg [⟨some 20, .bin .lss (.t 19) (.t 18), none⟩] [1, 4, 17, 18, 19, 20] [1])
  (.seq (.cond (.t 20) (.skip) (.exit 0))
  (.seq (.block 1 (.seq (.reg [⟨some 21, .iaddr 3 (.t 17) (.t 19), none⟩,
    ⟨some 22, .load true 3 (.t 21), none⟩,
    ⟨some 6, .alloc [.int .i64 0, .int .i64 0, .int .i64 0], none⟩,
    ⟨none, .store 3 (.t 6) (.t 22), none⟩] [1, 4, 6, 17, 18, 19] [1, 6])
  (.reg [⟨some 23, .mv (.t 4), none⟩,
    ⟨some 24, .faddr 0 (.t 6), none⟩,
    ⟨some 25, .load false 1 (.t 24), none⟩,
    ⟨some 26, .faddr 1 (.t 6), none⟩,
    ⟨some 27, .faddr 0 (.t 26), none⟩,
    ⟨some 28, .load false 1 (.t 27), none⟩,
    ⟨some 29, .faddr 1 (.t 6), none⟩,
    ⟨some 30, .faddr 1 (.t 29), none⟩,
    ⟨some 31, .load false 1 (.t 30), none⟩,
    ⟨some 32, .bslice 1 3 [.int .i64 0] [(0, .t 25), (1, .t 28), (2, .t 31)], none⟩,
    ⟨some 33, .call 151 [.t 32] [] [], none⟩,
    ⟨some 34, .bin .add (.t 23) (.t 33), none⟩,
    ⟨some 4, .mv (.t 34), none⟩] [1, 4, 17, 18, 19] [1])))
  (.reg [⟨some 35, .bin .add (.t 19) (.k (.int .i64 1)), none⟩,
    ⟨some 19, .mv (.t 35), none⟩] [1, 4, 17, 18, 19] [1])))
def impl_MailText.b : C := .seq (.reg [⟨some 1, .box (.t 0), none⟩,
    ⟨some 2, .mv (.k (.str ⟨#[]⟩)), none⟩,
    ⟨some 3, .mv (.k (.bool false)), none⟩] [1] [1])
  (.seq (.seq (.reg [⟨some 7, .load true 4 (.t 1), none⟩,
    ⟨some 8, .call 166 [.t 7] [] [], none⟩,
    ⟨some 9, .not (.t 8), none⟩] [1, 9] [1])
  (.cond (.t 9) (.seq (.reg [⟨some 2, .mv (.k (.str ⟨#[]⟩)), none⟩,
    ⟨some 3, .mv (.k (.bool false)), none⟩] [2, 3] [])
  (.ret)) (.skip)))
  (.seq (.reg [⟨some 10, .faddr 0 (.t 1), none⟩,
    ⟨some 11, .load false 1 (.t 10), none⟩,
    ⟨some 12, .faddr 1 (.t 1), none⟩,
    ⟨some 13, .load false 1 (.t 12), none⟩,
    ⟨some 14, .bslice 1 2 [.int .i64 0] [(0, .t 11), (1, .t 13)], none⟩,
    ⟨some 15, .call 151 [.t 14] [] [], none⟩,
    ⟨some 4, .mv (.t 15), none⟩] [1, 4] [1])
  (.seq (.seq (.reg [⟨some 16, .faddr 2 (.t 1), none⟩,
    ⟨some 17, .load false 1 (.t 16), none⟩,
    ⟨some 18, .len (.t 17), none⟩,
    ⟨some 19, .mv (.k (.int .i64 0)), none⟩] [1, 4, 17, 18, 19] [1])
  (.block 0 (.loop impl_MailText.l0)))
  (.seq (.reg [⟨some 36, .mv (.t 4), none⟩,
    ⟨some 37, .faddr 3 (.t 1), none⟩,
    ⟨some 38, .load false 1 (.t 37), none⟩,
    ⟨some 39, .call 102 [.t 38] [] [], none⟩,
    ⟨some 40, .bin .add (.t 36) (.t 39), none⟩,
    ⟨some 2, .mv (.t 40), none⟩,
    ⟨some 3, .mv (.k (.bool true)), none⟩] [2, 3] [])
  (.ret)))))
def impl_MailText.m : Fn := { np := 1, body := impl_MailText.b, res := [.tmp 2, .tmp 3] }
def impl_MailText.k (M : Nat → Option Body) : Prop := M 213 = some (.code impl_MailText.m) ∧ impl_short.k M ∧ impl_vars.k M ∧ impl_MailOk.k M
def spec_MailText.l0 : C := .seq (.seq (.reg [⟨some 16, .mv (.t 5), none⟩,
    ⟨some 17, .faddr 2 (.t 1), none⟩,
    ⟨some 18, .load false 1 (.t 17), none⟩,
    ⟨some 19, .len (.t 18), none⟩,
    ⟨some 20, .bin .lss (.t 16) (.t 19), none⟩] [1, 4, 5, 20] [1])
  (.cond (.t 20) (.skip) (.exit 0)))
  (.seq (.block 1 (.regd [⟨some 23, .mv (.t 4), none⟩,
    ⟨some 24, .faddr 2 (.t 1), none⟩,
    ⟨some 25, .load false 1 (.t 24), none⟩,
    ⟨some 26, .mv (.t 5), none⟩,
    ⟨some 27, .iaddr 3 (.t 25) (.t 26), none⟩,
    ⟨some 28, .faddr 0 (.t 27), none⟩,
    ⟨some 29, .load false 1 (.t 28), none⟩,
    ⟨some 30, .call 99 [.t 29] [] [], none⟩,
    ⟨some 31, .bin .add (.t 23) (.t 30), none⟩,
    ⟨some 32, .faddr 2 (.t 1), none⟩,
    ⟨some 33, .load false 1 (.t 32), none⟩,
    ⟨some 34, .mv (.t 5), none⟩,
    ⟨some 35, .iaddr 3 (.t 33) (.t 34), none⟩,
    ⟨some 36, .faddr 1 (.t 35), none⟩,
    ⟨some 37, .faddr 0 (.t 36), none⟩,
    ⟨some 38, .load false 1 (.t 37), none⟩,
    ⟨some 39, .call 99 [.t 38] [] [], none⟩,
    ⟨some 40, .bin .add (.t 31) (.t 39), none⟩,
    ⟨some 41, .faddr 2 (.t 1), none⟩,
    ⟨some 42, .load false 1 (.t 41), none⟩,
    ⟨some 43, .mv (.t 5), none⟩,
    ⟨some 44, .iaddr 3 (.t 42) (.t 43), none⟩,
    ⟨some 45, .faddr 1 (.t 44), none⟩,
    ⟨some 46, .faddr 1 (.t 45), none⟩,
    ⟨some 47, .load false 1 (.t 46), none⟩,
    ⟨some 48, .call 99 [.t 47] [] [], none⟩,
    ⟨some 49, .bin .add (.t 40) (.t 48), none⟩,
    ⟨some 4, .mv (.t 49), none⟩] [[], [], [1], [], [1, 2, 3], [1, 2, 3, 4], [1, 2, 3, 4, 5], [1, 2, 3, 4, 5, 6], [0, 1, 2, 3, 4, 5, 6, 7], [], [9], [], [9, 10, 11], [9, 10, 11, 12], [9, 10, 11, 12, 13], [9, 10, 11, 12, 13, 14], [1, 2, 3, 4, 5, 6, 7, 9, 10, 11, 12, 13, 14, 15], [0, 1, 2, 3, 4, 5, 6, 7, 8, 9, 10, 11, 12, 13, 14, 15, 16], [], [18], [], [18, 19, 20], [18, 19, 20, 21], [18, 19, 20, 21, 22], [18, 19, 20, 21, 22, 23], [1, 2, 3, 4, 5, 6, 7, 9, 10, 11, 12, 13, 14, 15, 16, 18, 19, 20, 21, 22, 23, 24], [0, 1, 2, 3, 4, 5, 6, 7, 8, 9, 10, 11, 12, 13, 14, 15, 16, 17, 18, 19, 20, 21, 22, 23, 24, 25], [0, 1, 2, 3, 4, 5, 6, 7, 8, 9, 10, 11, 12, 13, 14, 15, 16, 17, 18, 19, 20, 21, 22, 23, 24, 25, 26]] [1, 4, 5] [1]))
  (.reg [⟨some 21, .mv (.t 5), none⟩,
    ⟨some 22, .bin .add (.t 21) (.k (.int .i64 1)), none⟩,
    ⟨some 5, .mv (.t 22), none⟩] [1, 4, 5] [1]))
def spec_MailText.b : C := .seq (.reg [⟨some 1, .box (.t 0), none⟩,
    ⟨some 2, .mv (.k (.str ⟨#[]⟩)), none⟩,
    ⟨some 3, .mv (.k (.bool false)), none⟩] [1] [1])
  (.seq (.seq (.reg [⟨some 6, .load true 4 (.t 1), none⟩,
    ⟨some 7, .call 187 [.t 6] [] [], none⟩,
    ⟨some 8, .not (.t 7), none⟩] [1, 8] [1])
  (.cond (.t 8) (.seq (.reg [⟨some 2, .mv (.k (.str ⟨#[]⟩)), none⟩,
    ⟨some 3, .mv (.k (.bool false)), none⟩] [2, 3] [])
  (.ret)) (.skip)))
  (.seq (.regd [⟨some 9, .faddr 0 (.t 1), none⟩,
    ⟨some 10, .load false 1 (.t 9), none⟩,
    ⟨some 11, .call 99 [.t 10] [] [], none⟩,
    ⟨some 12, .faddr 1 (.t 1), none⟩,
    ⟨some 13, .load false 1 (.t 12), none⟩,
    ⟨some 14, .call 99 [.t 13] [] [], none⟩,
    ⟨some 15, .bin .add (.t 11) (.t 14), none⟩,
    ⟨some 4, .mv (.t 15), none⟩] [[], [0], [0, 1], [], [3], [0, 1, 2, 3, 4], [0, 1, 2, 3, 4, 5], [0, 1, 2, 3, 4, 5, 6]] [1, 4] [1])
  (.seq (.seq (.reg [⟨some 5, .mv (.k (.int .i64 0)), none⟩] [1, 4, 5] [1])
  (.block 0 (.loop spec_MailText.l0)))
  (.seq (.regd [⟨some 50, .mv (.t 4), none⟩,
    ⟨some 51, .faddr 3 (.t 1), none⟩,
    ⟨some 52, .load false 1 (.t 51), none⟩,
    ⟨some 53, .slen (.t 52), none⟩,
    ⟨some 54, .call 99 [.t 53] [] [], none⟩,
    ⟨some 55, .bin .add (.t 50) (.t 54), none⟩,
    ⟨some 56, .faddr 3 (.t 1), none⟩,
    ⟨some 57, .load false 1 (.t 56), none⟩,
    ⟨some 58, .bin .add (.t 55) (.t 57), none⟩,
    ⟨some 2, .mv (.t 58), none⟩,
    ⟨some 3, .mv (.k (.bool true)), none⟩] [[], [], [1], [1, 2], [1, 2, 3], [0, 1, 2, 3, 4], [], [6], [0, 1, 2, 3, 4, 5, 6, 7], [0, 1, 2, 3, 4, 5, 6, 7, 8], [0, 1, 2, 3, 4, 5, 6, 7, 8, 9]] [2, 3] [])
  (.ret)))))
def spec_MailText.m : Fn := { np := 1, body := spec_MailText.b, res := [.tmp 2, .tmp 3] }
def spec_MailText.k (M : Nat → Option Body) : Prop := M 122 = some (.code spec_MailText.m) ∧ spec_l01Var.k M ∧ spec_MailOk.k M
def impl_boxText.l0 : C := .seq (.reg [⟨some 34, .bin .lss (.t 33) (.t 32), none⟩] [1, 3, 31, 32, 33, 34] [1])
  (.seq (.cond (.t 34) (.skip) (.exit 0))
  (.seq (.block 1 (.seq (.reg [⟨some 35, .iaddr 4 (.t 31) (.t 33), none⟩,
    ⟨some 36, .load true 4 (.t 35), none⟩,
    ⟨some 5, .alloc [.int .i64 0, .int .i64 0, .nils 3, .str ⟨#[]⟩], none⟩,
    ⟨none, .store 4 (.t 5) (.t 36), none⟩] [1, 3, 5, 31, 32, 33] [1, 5])
  (.seq (.reg [⟨some 38, .load true 4 (.t 5), none⟩,
    ⟨some 39, .call 213 [.t 38] [] [], none⟩,
    ⟨some 37, .mv (.t 39), none⟩,
    ⟨some 40, .ext 0 (.t 37), none⟩,
    ⟨some 41, .ext 1 (.t 37), none⟩,
    ⟨some 6, .mv (.t 40), none⟩,
    ⟨some 7, .mv (.t 41), none⟩] [1, 3, 6, 31, 32, 33] [1])
  (.reg [⟨some 42, .mv (.t 3), none⟩,
    ⟨some 43, .mv (.t 6), none⟩,
    ⟨some 44, .bin .add (.t 42) (.t 43), none⟩,
    ⟨some 3, .mv (.t 44), none⟩] [1, 3, 31, 32, 33] [1]))))
  (.reg [⟨some 45, .bin .add (.t 33) (.k (.int .i64 1)), none⟩,
    ⟨some 33, .mv (.t 45), none⟩] [1, 3, 31, 32, 33] [1])))
def impl_boxText.b : C := .seq (.reg [⟨some 1, .box (.t 0), none⟩,
    ⟨some 2, .mv (.k (.str ⟨#[]⟩)), none⟩] [1] [1])
  (.seq (.regd [⟨some 8, .faddr 0 (.t 1), none⟩,
    ⟨some 9, .load false 1 (.t 8), none⟩,
    ⟨some 10, .bslice 1 1 [.int .i64 0] [(0, .t 9)], none⟩,
    ⟨some 11, .call 151 [.t 10] [] [], none⟩,
    ⟨some 12, .faddr 1 (.t 1), none⟩,
    ⟨some 13, .load false 1 (.t 12), none⟩,
    ⟨some 14, .call 102 [.t 13] [] [], none⟩,
    ⟨some 15, .bin .add (.t 11) (.t 14), none⟩,
    ⟨some 16, .faddr 2 (.t 1), none⟩,
    ⟨some 17, .faddr 0 (.t 16), none⟩,
    ⟨some 18, .load false 1 (.t 17), none⟩,
    ⟨some 19, .faddr 2 (.t 1), none⟩,
    ⟨some 20, .faddr 1 (.t 19), none⟩,
    ⟨some 21, .load false 1 (.t 20), none⟩,
    ⟨some 22, .faddr 4 (.t 1), none⟩,
    ⟨some 23, .load false 1 (.t 22), none⟩,
    ⟨some 24, .faddr 5 (.t 1), none⟩,
    ⟨some 25, .load false 1 (.t 24), none⟩,
    ⟨some 26, .len (.t 25), none⟩,
    ⟨some 27, .bslice 1 4 [.int .i64 0] [(0, .t 18), (1, .t 21), (2, .t 23), (3, .t 26)], none⟩,
    ⟨some 28, .call 151 [.t 27] [] [], none⟩,
    ⟨some 29, .bin .add (.t 15) (.t 28), none⟩,
    ⟨some 3, .mv (.t 29), none⟩] [[], [0], [0, 1], [0, 1, 2], [], [4], [0, 1, 2, 3, 4, 5], [0, 1, 2, 3, 4, 5, 6], [], [8], [8, 9], [], [11], [11, 12], [], [14], [], [16], [16, 17], [8, 9, 10, 11, 12, 13, 14, 15, 16, 17, 18], [0, 1, 2, 3, 4, 5, 6, 8, 9, 10, 11, 12, 13, 14, 15, 16, 17, 18, 19], [0, 1, 2, 3, 4, 5, 6, 7, 8, 9, 10, 11, 12, 13, 14, 15, 16, 17, 18, 19, 20], [0, 1, 2, 3, 4, 5, 6, 7, 8, 9, 10, 11, 12, 13, 14, 15, 16, 17, 18, 19, 20, 21]] [1, 3] [1])
  (.seq (.seq (.reg [⟨some 30, .faddr 5 (.t 1), none⟩,
    ⟨some 31, .load false 1 (.t 30), none⟩,
    ⟨some 32, .len (.t 31), none⟩,
    ⟨some 33, .mv (.k (.int .i64 0)), none⟩] [1, 3, 31, 32, 33] [1])
  (.block 0 (.loop impl_boxText.l0)))
  (.seq (.regd [⟨some 46, .mv (.t 3), none⟩,
    ⟨some 47, .faddr 6 (.t 1), none⟩,
    ⟨some 48, .load false 1 (.t 47), none⟩,
    ⟨some 49, .len (.t 48), none⟩,
    ⟨some 50, .bslice 1 1 [.int .i64 0] [(0, .t 49)], none⟩,
    ⟨some 51, .call 151 [.t 50] [] [], none⟩,
    ⟨some 52, .bin .add (.t 46) (.t 51), none⟩,
    ⟨some 53, .faddr 6 (.t 1), none⟩,
    ⟨some 54, .load false 1 (.t 53), none⟩,
    ⟨some 55, .call 151 [.t 54] [] [], none⟩,
    ⟨some 56, .bin .add (.t 52) (.t 55), none⟩,
    ⟨some 2, .mv (.t 56), none⟩] [[], [], [1], [1, 2], [1, 2, 3], [1, 2, 3, 4], [0, 1, 2, 3, 4, 5], [], [7], [1, 2, 3, 4, 5, 7, 8], [0, 1, 2, 3, 4, 5, 6, 7, 8, 9], [0, 1, 2, 3, 4, 5, 6, 7, 8, 9, 10]] [2] [])
  (.ret))))
def impl_boxText.m : Fn := { np := 1, body := impl_boxText.b, res := [.tmp 2] }
def impl_boxText.k (M : Nat → Option Body) : Prop := M 123 = some (.code impl_boxText.m) ∧ impl_short.k M ∧ impl_vars.k M ∧ impl_MailText.k M
def impl_BoxText.b : C := .seq (.reg [⟨some 1, .box (.t 0), none⟩,
    ⟨some 2, .mv (.k (.str ⟨#[]⟩)), none⟩,
    ⟨some 3, .mv (.k (.bool false)), none⟩] [1] [1])
  (.seq (.seq (.reg [⟨some 4, .load true 7 (.t 1), none⟩,
    ⟨some 5, .call 74 [.t 4] [] [], none⟩,
    ⟨some 6, .not (.t 5), none⟩] [1, 6] [1])
  (.cond (.t 6) (.seq (.reg [⟨some 2, .mv (.k (.str ⟨#[]⟩)), none⟩,
    ⟨some 3, .mv (.k (.bool false)), none⟩] [2, 3] [])
  (.ret)) (.skip)))
  (.seq (.reg [⟨some 7, .load true 7 (.t 1), none⟩,
    ⟨some 8, .call 123 [.t 7] [] [], none⟩,
    ⟨some 2, .mv (.t 8), none⟩,
    ⟨some 3, .mv (.k (.bool true)), none⟩] [2, 3] [])
  (.ret)))
def impl_BoxText.m : Fn := { np := 1, body := impl_BoxText.b, res := [.tmp 2, .tmp 3] }
def impl_BoxText.k (M : Nat → Option Body) : Prop := M 35 = some (.code impl_BoxText.m) ∧ impl_BoxOk.k M ∧ impl_boxText.k M
def spec_BoxText.l0 : C := .seq (.seq (.reg [⟨some 42, .mv (.t 5), none⟩,
    ⟨some 43, .faddr 5 (.t 1), none⟩,
    ⟨some 44, .load false 1 (.t 43), none⟩,
    ⟨some 45, .len (.t 44), none⟩,
    ⟨some 46, .bin .lss (.t 42) (.t 45), none⟩] [1, 4, 5, 46] [1])
  (.cond (.t 46) (.skip) (.exit 0)))
  (.seq (.block 1 (.seq (.reg [⟨some 50, .faddr 5 (.t 1), none⟩,
    ⟨some 51, .load false 1 (.t 50), none⟩,
    ⟨some 52, .mv (.t 5), none⟩,
    ⟨some 53, .iaddr 4 (.t 51) (.t 52), none⟩,
    ⟨some 54, .load true 4 (.t 53), none⟩,
    ⟨some 55, .call 122 [.t 54] [] [], none⟩,
    ⟨some 49, .mv (.t 55), none⟩,
    ⟨some 56, .ext 0 (.t 49), none⟩,
    ⟨some 57, .ext 1 (.t 49), none⟩,
    ⟨some 6, .mv (.t 56), none⟩,
    ⟨some 7, .mv (.t 57), none⟩] [1, 4, 5, 6] [1])
  (.reg [⟨some 58, .mv (.t 4), none⟩,
    ⟨some 59, .mv (.t 6), none⟩,
    ⟨some 60, .bin .add (.t 58) (.t 59), none⟩,
    ⟨some 4, .mv (.t 60), none⟩] [1, 4, 5] [1])))
  (.reg [⟨some 47, .mv (.t 5), none⟩,
    ⟨some 48, .bin .add (.t 47) (.k (.int .i64 1)), none⟩,
    ⟨some 5, .mv (.t 48), none⟩] [1, 4, 5] [1]))
def spec_BoxText.l1 : C := .seq (.seq (.reg [⟨some 67, .mv (.t 8), none⟩,
    ⟨some 68, .faddr 6 (.t 1), none⟩,
    ⟨some 69, .load false 1 (.t 68), none⟩,
    ⟨some 70, .len (.t 69), none⟩,
    ⟨some 71, .bin .lss (.t 67) (.t 70), none⟩] [1, 4, 8, 71] [1])
  (.cond (.t 71) (.skip) (.exit 2)))
  (.seq (.block 3 (.reg [⟨some 74, .mv (.t 4), none⟩,
    ⟨some 75, .faddr 6 (.t 1), none⟩,
    ⟨some 76, .load false 1 (.t 75), none⟩,
    ⟨some 77, .mv (.t 8), none⟩,
    ⟨some 78, .iaddr 1 (.t 76) (.t 77), none⟩,
    ⟨some 79, .load false 1 (.t 78), none⟩,
    ⟨some 80, .call 99 [.t 79] [] [], none⟩,
    ⟨some 81, .bin .add (.t 74) (.t 80), none⟩,
    ⟨some 4, .mv (.t 81), none⟩] [1, 4, 8] [1]))
  (.reg [⟨some 72, .mv (.t 8), none⟩,
    ⟨some 73, .bin .add (.t 72) (.k (.int .i64 1)), none⟩,
    ⟨some 8, .mv (.t 73), none⟩] [1, 4, 8] [1]))
def spec_BoxText.b : C := .seq (.reg [⟨some 1, .box (.t 0), none⟩,
    ⟨some 2, .mv (.k (.str ⟨#[]⟩)), none⟩,
    ⟨some 3, .mv (.k (.bool false)), none⟩] [1] [1])
  (.seq (.seq (.reg [⟨some 9, .load true 7 (.t 1), none⟩,
    ⟨some 10, .call 88 [.t 9] [] [], none⟩,
    ⟨some 11, .not (.t 10), none⟩] [1, 11] [1])
  (.cond (.t 11) (.seq (.reg [⟨some 2, .mv (.k (.str ⟨#[]⟩)), none⟩,
    ⟨some 3, .mv (.k (.bool false)), none⟩] [2, 3] [])
  (.ret)) (.skip)))
  (.seq (.regd [⟨some 12, .faddr 0 (.t 1), none⟩,
    ⟨some 13, .load false 1 (.t 12), none⟩,
    ⟨some 14, .call 99 [.t 13] [] [], none⟩,
    ⟨some 15, .faddr 1 (.t 1), none⟩,
    ⟨some 16, .load false 1 (.t 15), none⟩,
    ⟨some 17, .slen (.t 16), none⟩,
    ⟨some 18, .call 99 [.t 17] [] [], none⟩,
    ⟨some 19, .bin .add (.t 14) (.t 18), none⟩,
    ⟨some 20, .faddr 1 (.t 1), none⟩,
    ⟨some 21, .load false 1 (.t 20), none⟩,
    ⟨some 22, .bin .add (.t 19) (.t 21), none⟩,
    ⟨some 23, .faddr 2 (.t 1), none⟩,
    ⟨some 24, .faddr 0 (.t 23), none⟩,
    ⟨some 25, .load false 1 (.t 24), none⟩,
    ⟨some 26, .call 99 [.t 25] [] [], none⟩,
    ⟨some 27, .bin .add (.t 22) (.t 26), none⟩,
    ⟨some 28, .faddr 2 (.t 1), none⟩,
    ⟨some 29, .faddr 1 (.t 28), none⟩,
    ⟨some 30, .load false 1 (.t 29), none⟩,
    ⟨some 31, .call 99 [.t 30] [] [], none⟩,
    ⟨some 32, .bin .add (.t 27) (.t 31), none⟩,
    ⟨some 33, .faddr 4 (.t 1), none⟩,
    ⟨some 34, .load false 1 (.t 33), none⟩,
    ⟨some 35, .call 99 [.t 34] [] [], none⟩,
    ⟨some 36, .bin .add (.t 32) (.t 35), none⟩,
    ⟨some 37, .faddr 5 (.t 1), none⟩,
    ⟨some 38, .load false 1 (.t 37), none⟩,
    ⟨some 39, .len (.t 38), none⟩,
    ⟨some 40, .call 99 [.t 39] [] [], none⟩,
    ⟨some 41, .bin .add (.t 36) (.t 40), none⟩,
    ⟨some 4, .mv (.t 41), none⟩] [[], [0], [0, 1], [], [3], [3, 4], [0, 1, 2, 3, 4, 5], [0, 1, 2, 3, 4, 5, 6], [], [8], [0, 1, 2, 3, 4, 5, 6, 7, 8, 9], [], [11], [11, 12], [0, 1, 2, 3, 4, 5, 6, 11, 12, 13], [0, 1, 2, 3, 4, 5, 6, 7, 8, 9, 10, 11, 12, 13, 14], [], [16], [16, 17], [0, 1, 2, 3, 4, 5, 6, 11, 12, 13, 14, 16, 17, 18], [0, 1, 2, 3, 4, 5, 6, 7, 8, 9, 10, 11, 12, 13, 14, 15, 16, 17, 18, 19], [], [21], [0, 1, 2, 3, 4, 5, 6, 11, 12, 13, 14, 16, 17, 18, 19, 21, 22], [0, 1, 2, 3, 4, 5, 6, 7, 8, 9, 10, 11, 12, 13, 14, 15, 16, 17, 18, 19, 20, 21, 22, 23], [], [25], [25, 26], [0, 1, 2, 3, 4, 5, 6, 11, 12, 13, 14, 16, 17, 18, 19, 21, 22, 23, 25, 26, 27], [0, 1, 2, 3, 4, 5, 6, 7, 8, 9, 10, 11, 12, 13, 14, 15, 16, 17, 18, 19, 20, 21, 22, 23, 24, 25, 26, 27, 28], [0, 1, 2, 3, 4, 5, 6, 7, 8, 9, 10, 11, 12, 13, 14, 15, 16, 17, 18, 19, 20, 21, 22, 23, 24, 25, 26, 27, 28, 29]] [1, 4] [1])
  (.seq (.seq (.reg [⟨some 5, .mv (.k (.int .i64 0)), none⟩] [1, 4, 5] [1])
  (.block 0 (.loop spec_BoxText.l0)))
  (.seq (.reg [⟨some 61, .mv (.t 4), none⟩,
    ⟨some 62, .faddr 6 (.t 1), none⟩,
    ⟨some 63, .load false 1 (.t 62), none⟩,
    ⟨some 64, .len (.t 63), none⟩,
    ⟨some 65, .call 99 [.t 64] [] [], none⟩,
    ⟨some 66, .bin .add (.t 61) (.t 65), none⟩,
    ⟨some 4, .mv (.t 66), none⟩] [1, 4] [1])
  (.seq (.seq (.reg [⟨some 8, .mv (.k (.int .i64 0)), none⟩] [1, 4, 8] [1])
  (.block 2 (.loop spec_BoxText.l1)))
  (.seq (.reg [⟨some 82, .mv (.t 4), none⟩,
    ⟨some 2, .mv (.t 82), none⟩,
    ⟨some 3, .mv (.k (.bool true)), none⟩] [2, 3] [])
  (.ret)))))))
def spec_BoxText.m : Fn := { np := 1, body := spec_BoxText.b, res := [.tmp 2, .tmp 3] }
def spec_BoxText.k (M : Nat → Option Body) : Prop := M 34 = some (.code spec_BoxText.m) ∧ spec_BoxOk.k M ∧ spec_l01Var.k M ∧ spec_MailText.k M
def laws_FnExactBoxText.b : C := .seq (.reg [⟨some 1, .box (.t 0), none⟩,
    ⟨some 2, .mv (.k (.bool false)), none⟩] [1] [1])
  (.seq (.reg [⟨some 3, .mv (.k (.int .i64 1048576)), none⟩] [1, 3] [1])
  (.seq (.reg [⟨some 9, .load true 7 (.t 1), none⟩,
    ⟨some 10, .mv (.t 3), none⟩,
    ⟨some 11, .call 17 [.t 9, .t 10] [] [], none⟩,
    ⟨some 3, .mv (.t 11), none⟩] [1, 3] [1])
  (.seq (.seq (.reg [⟨some 12, .mv (.t 3), none⟩,
    ⟨some 13, .bin .lss (.t 12) (.k (.int .i64 0)), none⟩] [1, 13] [1])
  (.cond (.t 13) (.seq (.reg [⟨some 2, .mv (.k (.bool true)), none⟩] [2] [])
  (.ret)) (.skip)))
  (.seq (.reg [⟨some 15, .load true 7 (.t 1), none⟩,
    ⟨some 16, .call 18 [.t 15] [] [], none⟩,
    ⟨some 17, .call 34 [.t 16] [] [], none⟩,
    ⟨some 14, .mv (.t 17), none⟩,
    ⟨some 18, .ext 0 (.t 14), none⟩,
    ⟨some 19, .ext 1 (.t 14), none⟩,
    ⟨some 4, .mv (.t 18), none⟩,
    ⟨some 5, .mv (.t 19), none⟩] [1, 4, 5] [1])
  (.seq (.reg [⟨some 20, .load true 7 (.t 1), none⟩,
    ⟨some 21, .call 18 [.t 20] [] [], none⟩,
    ⟨some 6, .alloc [.int .i64 0, .str ⟨#[]⟩, .int .i64 0, .int .i64 0, .int .i64 0, .nils 4, .nils 1], none⟩,
    ⟨none, .store 7 (.t 6) (.t 21), none⟩] [1, 4, 5, 6] [1, 6])
  (.seq (.reg [⟨some 23, .load true 7 (.t 6), none⟩,
    ⟨some 24, .call 35 [.t 23] [] [], none⟩,
    ⟨some 22, .mv (.t 24), none⟩,
    ⟨some 25, .ext 0 (.t 22), none⟩,
    ⟨some 26, .ext 1 (.t 22), none⟩,
    ⟨some 7, .mv (.t 25), none⟩,
    ⟨some 8, .mv (.t 26), none⟩] [1, 4, 5, 6, 7, 8] [1, 6])
  (.seq (.seq (.reg [⟨some 27, .mv (.t 7), none⟩,
    ⟨some 28, .mv (.t 4), none⟩,
    ⟨some 29, .bin .neq (.t 27) (.t 28), none⟩,
    ⟨some 30, .mv (.t 29), none⟩,
    ⟨some 31, .mv (.t 8), some (30, false)⟩,
    ⟨some 32, .mv (.t 5), some (30, false)⟩,
    ⟨some 33, .beq true (.t 31) (.t 32), some (30, false)⟩,
    ⟨some 34, .pick (.t 30) (.k (.bool true)) (.t 33), none⟩] [1, 6, 34] [1, 6])
  (.cond (.t 34) (.seq (.reg [⟨some 2, .mv (.k (.bool false)), none⟩] [2] [])
  (.ret)) (.skip)))
  (.seq (.seq (.regd [⟨some 35, .load true 7 (.t 6), none⟩,
    ⟨some 36, .load true 7 (.t 1), none⟩,
    ⟨some 37, .call 18 [.t 36] [] [], none⟩,
    ⟨some 38, .call 21 [.t 35, .t 37] [] [], none⟩,
    ⟨some 39, .not (.t 38), none⟩] [[], [], [1], [0, 1, 2], [0, 1, 2, 3]] [39] [])
  (.cond (.t 39) (.seq (.reg [⟨some 2, .mv (.k (.bool false)), none⟩] [2] [])
  (.ret)) (.skip)))
  (.seq (.reg [⟨some 2, .mv (.k (.bool true)), none⟩] [2] [])
  (.ret))))))))))
def laws_FnExactBoxText.m : Fn := { np := 1, body := laws_FnExactBoxText.b, res := [.tmp 2] }
def laws_FnExactBoxText.k (M : Nat → Option Body) : Prop := M 368 = some (.code laws_FnExactBoxText.m) ∧ laws_szBox.k M ∧ laws_toBox.k M ∧ laws_eqBox.k M ∧ spec_BoxText.k M ∧ impl_BoxText.k M
end Mx

/-
  Small codes: impl.copyInts.
-/
namespace Mx
open Go
def impl_copyInts.b : C := .seq (.reg [⟨some 2, .nil 1, none⟩] [0] [])
  (.seq (.reg [⟨some 3, .bslice 1 0 [.int .i64 0] [], none⟩,
    ⟨some 4, .mv (.t 0), none⟩,
    ⟨some 5, .app 1 8 (.t 3) (.t 4), none⟩,
    ⟨some 2, .mv (.t 5), none⟩] [2] [2, 3, 5])
  (.ret))
def impl_copyInts.m : Fn := { np := 1, body := impl_copyInts.b, res := [.tmp 2] }
def impl_copyInts.k (M : Nat → Option Body) : Prop := M 134 = some (.code impl_copyInts.m)
end Mx

/-
  A function of Go's library by its contract: numbers, truths and texts in, one of them out, memory as it was.
-/
namespace Mx
open Go

def valT : T → Option Value
  | .int k n => some (.int k n)
  | .bool b => some (.bool b)
  | .str s => some (.string s)
  | _ => none
def cellV : V → Option T
  | .c t => some t
  | _ => none
def extG (g : List T → Option T) (as : List V) (lent : List (Nat × Ob)) : Option (V × List (Nat × Ob)) :=
  if lent.isEmpty then (match mapO cellV as with | some ts => (g ts).map fun r => (.c r, []) | none => none) else none

variable {P : Program} {F : Nat → FuncId}

theorem repV_val {X : Cx} {t : T} {v x : Value} (h : RepV X (.c t) x) (hv : valT t = some v) : x = v := by
  cases h with | c _ _ h =>
  cases t <;> simp [valT] at hv <;> subst hv <;> cases h <;> rfl
theorem resT_val {X : Cx} {own : Nat → Option Loc} {lent : List (Nat × Ob)} {q : Nat} {t : T} {v : Value} (hv : valT t = some v) : ResT X own lent q t v := by
  cases t <;> simp [valT] at hv <;> subst hv
  · exact .int _ _
  · exact .bool _
  · exact .str _

theorem mapO_len {α β : Type} {f : α → Option β} : ∀ {l : List α} {r : List β}, mapO f l = some r → r.length = l.length
  | [], r, h => by simp [mapO] at h; subst h; rfl
  | a :: l, r, h => by
    simp only [mapO] at h
    split at h <;> cases h
    rename_i y ys h1 h2
    simp [mapO_len h2]
theorem mapO_at {α β : Type} {f : α → Option β} : ∀ {l : List α} {r : List β} {i : Nat} {a : α}, mapO f l = some r → l[i]? = some a → ∃ b, r[i]? = some b ∧ f a = some b
  | [], r, i, a, h, hi => by simp at hi
  | x :: l, r, i, a, h, hi => by
    simp only [mapO] at h
    split at h <;> cases h
    rename_i y ys h1 h2
    cases i with
    | zero => simp at hi; subst hi; exact ⟨y, rfl, h1⟩
    | succ i => simpa using mapO_at h2 (by simpa using hi)

theorem ext_plain {f : Nat} {g : List T → Option T} (hf : okFn P F f = true)
    (h : ∀ ts r, g ts = some r → ∃ xs x, mapO valT ts = some xs ∧ valT r = some x ∧ ∀ w, Calls P (F f) xs.toArray w fun e w' => e = .returned x ∧ w' = w) : ExtOk P F f (extG g) := by
  intro as lent res after hg
  refine ⟨hf, fun Pr E0 vals w En => ?_⟩
  unfold extG at hg
  split at hg
  · rename_i hl
    rw [List.isEmpty_iff] at hl
    subst hl
    split at hg
    · rename_i ts hts
      simp only [Option.map_eq_some_iff] at hg
      obtain ⟨r, hr, hg⟩ := hg
      cases hg
      obtain ⟨xs, x, h1, h2, h3⟩ := h ts r hr
      have hv : vals = xs.toArray := by
        apply Array.ext
        · rw [← En.n, List.size_toArray, mapO_len h1, mapO_len hts]
        · intro i hi hi'
          have hi1 : i < as.length := by rw [En.n]; exact hi
          obtain ⟨t, k1, k2⟩ := mapO_at hts (List.getElem?_eq_getElem hi1)
          obtain ⟨v, k3, k4⟩ := mapO_at h1 k1
          have k5 := En.args i as[i] vals[i] (List.getElem?_eq_getElem hi1) (Array.getElem?_eq_getElem hi)
          have e1 : as[i] = .c t := by
            cases ha : as[i] with
            | c t' => rw [ha] at k2; simp [cellV] at k2; rw [k2]
            | a ts => rw [ha] at k2; simp [cellV] at k2
            | tup ts => rw [ha] at k2; simp [cellV] at k2
            | undef => rw [ha] at k2; simp [cellV] at k2
          rw [e1] at k5
          have := repV_val k5 k4
          rw [this]
          have e2 : xs[i]? = some v := k3
          have hi2 : i < xs.length := by simpa using hi'
          rw [List.getElem?_eq_getElem hi2] at e2
          simpa using (Option.some.inj e2).symm
      subst hv
      refine (h3 w).mono ?_
      rintro e w' ⟨rfl, rfl⟩
      refine ⟨x, E0, fun _ => none, rfl, rfl, rfl, rfl, Nat.le_refl _, fun b _ _ => rfl, fun v l h => h, fun q b cap sz h => (by cases h), fun q q' b cap sz cap' sz' h => (by cases h), ?_, fun p ob ob' l h => (by simp [get] at h)⟩
      simp only [ResA, ResV]
      exact resT_val h2
    · cases hg
  · cases hg

/-- a table of codes and of contracts -/
def tabX (tab : List (Nat × Fn)) (ext : List (Nat × (List T → Option T))) (f : Nat) : Option Body := match get tab f with
  | some b => some (.code b)
  | none => (get ext f).map fun g => .ext (extG g)
theorem table_ext {tab : List (Nat × Fn)} {ext : List (Nat × (List T → Option T))} (h : ∀ p ∈ tab, okFunc P F p.1 p.2 = true) (hx : ∀ p ∈ ext, ExtOk P F p.1 (extG p.2)) : TableOk P F (tabX tab ext) := by
  intro f
  unfold tabX
  cases hg : get tab f with
  | some b => exact h _ (get_mem hg)
  | none =>
    cases hq : get ext f with
    | none => simp
    | some g => exact hx _ (get_mem hq)

theorem run_ext_plain {M : Nat → Option Body} {f : Nat} {g : List T → Option T} (hM : M f = some (.ext (extG g))) {ts : List T} {r : T} (h : g ts = some r) : run M f (ts.map .c) [] = some (.c r, []) := by
  refine run_ext hM ?_
  have : mapO cellV (ts.map .c) = some ts := by
    induction ts with
    | nil => rfl
    | cons t ts ih => simp only [List.map_cons, mapO, cellV]; rw [show mapO cellV (ts.map .c) = some ts from by clear ih h; induction ts with | nil => rfl | cons t ts ih => simp only [List.map_cons, mapO, cellV, ih]]
  simp only [extG, List.isEmpty_nil, if_true, this, h, Option.map_some]
end Mx

/-
  The laws' plumbing at any type: slices laid over and held against each other, element by element.
-/
namespace Mx
open Go
variable {M : Nat → Option Body}

/-- a cell that all may read -/
def closedT : T → Bool
  | .int .. => true
  | .bool _ => true
  | .str _ => true
  | .sl own _ _ => !own
  | _ => false
/-- as the caller sees it -/
def frz : T → T
  | .sl _ sz rows => .sl false sz rows
  | t => t
def resT : T → Bool
  | .int .. => true
  | .bool _ => true
  | .str _ => true
  | .sl .. => true
  | _ => false
theorem im_closed {o : List (Nat × Ob)} {t : T} (h : closedT t = true) : im o t = some t ∧ wr3 o t = [] ∧ cl o t = some t := by
  cases t <;> simp [closedT] at h <;> simp [im, im1, im0, wr3, wr2, wr, cl, h]
theorem im_closedL {o : List (Nat × Ob)} {r : List T} (h : r.all closedT = true) : mapO (im o) r = some r ∧ r.flatMap (wr3 o) = [] ∧ mapO (cl o) r = some r := by
  induction r with
  | nil => exact ⟨rfl, rfl, rfl⟩
  | cons t r ih =>
    simp only [List.all_cons, Bool.and_eq_true] at h
    obtain ⟨h1, h2, h3⟩ := ih h.2
    obtain ⟨k1, k2, k3⟩ := im_closed (o := o) h.1
    simp only [mapO, h1, h3, k1, k3, k2, h2, List.flatMap_cons, List.append_nil, and_self]
theorem back_frz {n : Nat} {l : List (Nat × Nat × Nat)} {r : List T} (h : r.all resT = true) (q : Nat) : backL n l [] q r = some (r.map frz, []) := by
  induction r generalizing q with
  | nil => rfl
  | cons t r ih =>
    simp only [List.all_cons, Bool.and_eq_true] at h
    have h1 := ih h.2 (q + 1)
    cases t <;> simp [resT] at h <;> simp [backL, backT, get, h1, frz]
theorem frz_closed {t : T} (h : resT t = true) : closedT (frz t) = true := by
  cases t <;> simp [resT] at h <;> simp [frz, closedT]

/-- a call with one row, back with one row -/
theorem call_row {n : Nat} {o : List (Nat × Ob)} {f : Nat} {r r' : List T} (hr : r.all closedT = true) (hr' : r'.all resT = true) (h : run M f [.a r] [] = some (.a r', [])) :
    doCall (run M) n o f [.a r] [] [] = some (.a (r'.map frz), []) := by
  obtain ⟨h1, h2, _⟩ := im_closedL (o := o) hr
  simp [doCall, args, lendsC, V.im, V.wr, h1, h2, h, lentBack, back, backV, back_frz hr']
theorem call_rows2 {n : Nat} {o : List (Nat × Ob)} {f : Nat} {r s : List T} {b : Bool} (hr : r.all closedT = true) (hs : s.all closedT = true) (h : run M f [.a r, .a s] [] = some (.c (.bool b), [])) :
    doCall (run M) n o f [.a r, .a s] [] [] = some (.c (.bool b), []) := by
  obtain ⟨h1, h2, _⟩ := im_closedL (o := o) hr
  obtain ⟨k1, k2, _⟩ := im_closedL (o := o) hs
  simp [doCall, args, lendsC, V.im, V.wr, h1, h2, k1, k2, h, lentBack, back, backV, backT]

theorem set_row {α : Type} (a : List α) (x : α) (b : List α) (n : Nat) (h : a.length = n) (y : α) : (a ++ x :: b).set n y = a ++ y :: b := by
  subst h; simp
theorem get_row {α : Type} (a : List α) (x : α) (b : List α) (n : Nat) (h : a.length = n) : (a ++ x :: b)[n]? = some x := by
  subst h; simp

/-! ## out := make([]X, len(a)); out[i] = toX(a[i]) -/
theorem keep_any (ks : List Nat) : keep ks ([] : List (Nat × Ob)) = [] := by
  induction ks with
  | nil => rfl
  | cons k ks ih => simp [keep_cons, get, ih]
def toSl (n f : Nat) : C := .seq (.seq (.reg [⟨some 8, .mv (.t 4), none⟩,
    ⟨some 9, .mv (.t 0), none⟩,
    ⟨some 10, .len (.t 9), none⟩,
    ⟨some 11, .bin .lss (.t 8) (.t 10), none⟩] [0, 3, 4, 11] [7])
  (.cond (.t 11) (.skip) (.exit 0)))
  (.seq (.block 1 (.reg [⟨some 14, .mv (.t 3), none⟩,
    ⟨some 15, .mv (.t 4), none⟩,
    ⟨some 16, .mv (.t 0), none⟩,
    ⟨some 17, .mv (.t 4), none⟩,
    ⟨some 18, .iaddr n (.t 16) (.t 17), none⟩,
    ⟨some 19, .load true n (.t 18), none⟩,
    ⟨some 20, .call f [.t 19] [] [], none⟩,
    ⟨some 21, .iaddr n (.t 14) (.t 15), none⟩,
    ⟨none, .store n (.t 21) (.t 20), none⟩] [0, 3, 4] [7]))
  (.reg [⟨some 12, .mv (.t 4), none⟩,
    ⟨some 13, .bin .add (.t 12) (.k (.int .i64 1)), none⟩,
    ⟨some 4, .mv (.t 13), none⟩] [0, 3, 4] [7]))
def toSb (n by' : Nat) (z : List T) (f : Nat) : C := .seq (.reg [⟨some 2, .nil n, none⟩] [0] [])
  (.seq (.reg [⟨some 5, .mv (.t 0), none⟩,
    ⟨some 6, .len (.t 5), none⟩,
    ⟨some 7, .mks n by' z (.t 6), none⟩,
    ⟨some 3, .mv (.t 7), none⟩] [0, 3] [7])
  (.seq (.seq (.reg [⟨some 4, .mv (.k (.int .i64 0)), none⟩] [0, 3, 4] [7])
  (.block 0 (.loop (toSl n f))))
  (.seq (.reg [⟨some 22, .mv (.t 3), none⟩,
    ⟨some 2, .mv (.t 22), none⟩] [2] [2, 7])
  (.ret))))
def toSm (n by' : Nat) (z : List T) (f : Nat) : Fn := { np := 1, body := toSb n by' z f, res := [.tmp 2] }
def toSst (n : Nat) (z : List T) (rows : List (List T)) (i : Nat) (x : Nat × Nat) : St :=
  { t := [(0, .c (.sl false n rows)), (3, .c (.row 7 x.1 0 rows.length)), (4, .c (I i))], o := [(7, ⟨x.1, n, true, false, rows.take i ++ List.replicate (rows.length - i) z⟩)], n := x.2 }
theorem toS_says {F n by' : Nat} {z : List T} {f : Nat} (h : M F = some (.code (toSm n by' z f))) (hz : z.length = n) {rows : List (List T)} (hl : rows.length ≤ 1048576) (hby : by' ≤ 4096) 
    (he : ∀ r ∈ rows, r.length = n ∧ r.all closedT = true ∧ ∃ r', run M f [.a r] [] = some (.a r', []) ∧ r'.all resT = true ∧ r'.map frz = r) :
    run M F [.c (.sl false n rows)] [] = some (.c (.sl true n rows), []) := by
  refine run_code (b := toSm n by' z f) h ⟨rows.length + 1, ?_⟩
  obtain ⟨g, hr⟩ := loop_all (f := exC (run M) (rows.length + 1) (toSl n f)) (toSst n z rows) (fun i => i ≤ rows.length) (fun i => rows.length - i) (fun _ => ())
    (fun _ (m : Nat × Nat) => (.exit 0, { t := [(0, .c (.sl false n rows)), (3, .c (.row 7 m.1 0 rows.length)), (4, .c (I rows.length)), (11, .c (.bool false))], o := [(7, ⟨m.1, n, true, false, rows⟩)], n := m.2 }))
    (by
      rintro i ⟨v, x⟩ hi
      by_cases hlt : i < rows.length
      · have e5 : IntKind.i64.wrap ((i : Int) + 1) = (i : Int) + 1 := wrap_i64 (by omega) (by omega)
        obtain ⟨k1, k2, r', k3, k4, k5⟩ := he rows[i] (List.getElem_mem hlt)
        have hc := fun nn => call_row (n := nn) (o := [(7, (⟨v, n, true, false, rows.take i ++ List.replicate (rows.length - i) z⟩ : Ob))]) k2 k4 k3
        rw [k5] at hc
        have hti : (rows.take i).length = i := by simp; omega
        have hrep : List.replicate (rows.length - i) z = z :: List.replicate (rows.length - (i + 1)) z := by
          rw [show rows.length - i = (rows.length - (i + 1)) + 1 by omega, List.replicate_succ]
        have h3 : (rows.take i ++ List.replicate (rows.length - i) z)[i]? = some z := by
          rw [hrep]; exact get_row _ _ _ _ hti
        have h3' : ∀ h, (rows.take i ++ List.replicate (rows.length - i) z)[i]'h = z := fun h => by rw [List.getElem?_eq_getElem h] at h3; exact Option.some.inj h3
        have h4 : (rows.take i ++ List.replicate (rows.length - i) z).set i rows[i] = rows.take (i + 1) ++ List.replicate (rows.length - (i + 1)) z := by
          rw [hrep, set_row _ _ _ _ hti, List.take_succ_eq_append_getElem hlt, List.append_assoc]; rfl
        have h5 : i < (rows.take i ++ List.replicate (rows.length - i) z).length := by simp; omega
        have h6 : (List.take n rows[i]) = rows[i] := List.take_of_length_le (by omega)
        have h7 : setAt z 0 rows[i] = rows[i] := by
          simp only [setAt, List.take_zero, List.nil_append, Nat.zero_add]
          rw [List.drop_eq_nil_of_le (by omega), List.append_nil]
        have h8 := (im_closedL (o := [(7, (⟨v, n, true, false, rows.take i ++ List.replicate (rows.length - i) z⟩ : Ob))]) k2).2.2
        have h9 : n ≤ z.length := by omega
        obtain ⟨y, hy⟩ : ∃ y, exC (run M) (rows.length + 1) (toSl n f) (toSst n z rows i (v, x)) = some (.normal, toSst n z rows (i + 1) y) := by
          simp only [Prod.exists]
          simp [toSst, toSl, hlt, e5, k1, hc, h3, h3', h4, h5, h6, h7, h8, h9, -doCall, -setAt]
        exact .inl ⟨i + 1, y, hy, hlt, by omega, rfl⟩
      · have : i = rows.length := by omega
        subst this
        exact .inr ⟨(v, x + 64), by simp [toSst, toSl], by simp⟩)
    (rows.length + 1) 0 (Nat.zero_le _) (by omega)
  have c1 : rows.length ≤ 4294967296 := by omega
  have c2 : by' * rows.length ≤ 140737488355328 := Nat.le_trans (Nat.mul_le_mul hby hl) (by decide)
  simp [toSst] at hr
  simp [exB, toSm, toSb, List.range_succ, hr, c1, c2, List.take_of_length_le]

/-! ## the same, with elements of one cell -/
def toS1l : C := .seq (.seq (.reg [⟨some 8, .mv (.t 4), none⟩,
    ⟨some 9, .mv (.t 0), none⟩,
    ⟨some 10, .len (.t 9), none⟩,
    ⟨some 11, .bin .lss (.t 8) (.t 10), none⟩] [0, 3, 4, 11] [7])
  (.cond (.t 11) (.skip) (.exit 0)))
  (.seq (.block 1 (.reg [⟨some 14, .mv (.t 3), none⟩,
    ⟨some 15, .mv (.t 4), none⟩,
    ⟨some 16, .mv (.t 0), none⟩,
    ⟨some 17, .mv (.t 4), none⟩,
    ⟨some 18, .iaddr 1 (.t 16) (.t 17), none⟩,
    ⟨some 19, .load false 1 (.t 18), none⟩,
    ⟨some 20, .iaddr 1 (.t 14) (.t 15), none⟩,
    ⟨none, .store 1 (.t 20) (.t 19), none⟩] [0, 3, 4] [7]))
  (.reg [⟨some 12, .mv (.t 4), none⟩,
    ⟨some 13, .bin .add (.t 12) (.k (.int .i64 1)), none⟩,
    ⟨some 4, .mv (.t 13), none⟩] [0, 3, 4] [7]))
def toS1b (by' : Nat) (z : T) : C := .seq (.reg [⟨some 2, .nil 1, none⟩] [0] [])
  (.seq (.reg [⟨some 5, .mv (.t 0), none⟩,
    ⟨some 6, .len (.t 5), none⟩,
    ⟨some 7, .mks 1 by' [z] (.t 6), none⟩,
    ⟨some 3, .mv (.t 7), none⟩] [0, 3] [7])
  (.seq (.seq (.reg [⟨some 4, .mv (.k (.int .i64 0)), none⟩] [0, 3, 4] [7])
  (.block 0 (.loop toS1l)))
  (.seq (.reg [⟨some 21, .mv (.t 3), none⟩,
    ⟨some 2, .mv (.t 21), none⟩] [2] [2, 7])
  (.ret))))
def toS1m (by' : Nat) (z : T) : Fn := { np := 1, body := toS1b by' z, res := [.tmp 2] }
theorem toS1_says {F by' : Nat} {z : T} (h : M F = some (.code (toS1m by' z))) {l : List T} (hl : l.length ≤ 1048576) (hby : by' ≤ 4096) (he : ∀ t ∈ l, closedT t = true) :
    run M F [.c (.sl false 1 (l.map fun t => [t]))] [] = some (.c (.sl true 1 (l.map fun t => [t])), []) := by
  refine run_code (b := toS1m by' z) h ⟨l.length + 1, ?_⟩
  obtain ⟨rows, hrows⟩ : ∃ rows, rows = l.map fun t => [t] := ⟨_, rfl⟩
  have hlen : rows.length = l.length := by rw [hrows]; simp
  rw [← hrows]
  obtain ⟨g, hr⟩ := loop_all (f := exC (run M) (l.length + 1) toS1l) (toSst 1 [z] rows) (fun i => i ≤ rows.length) (fun i => rows.length - i) (fun _ => ())
    (fun _ (m : Nat × Nat) => (.exit 0, { t := [(0, .c (.sl false 1 rows)), (3, .c (.row 7 m.1 0 rows.length)), (4, .c (I rows.length)), (11, .c (.bool false))], o := [(7, ⟨m.1, 1, true, false, rows⟩)], n := m.2 }))
    (by
      rintro i ⟨v, x⟩ hi
      by_cases hlt : i < rows.length
      · have e5 : IntKind.i64.wrap ((i : Int) + 1) = (i : Int) + 1 := wrap_i64 (by omega) (by omega)
        have hlt' : i < l.length := by omega
        have k0 : rows[i] = [l[i]] := by simp [hrows]
        have h8 := (im_closed (o := [(7, (⟨v, 1, true, false, rows.take i ++ List.replicate (rows.length - i) [z]⟩ : Ob))]) (he l[i] (List.getElem_mem hlt'))).2.2
        have hti : (rows.take i).length = i := by simp; omega
        have hrep : List.replicate (rows.length - i) [z] = [z] :: List.replicate (rows.length - (i + 1)) [z] := by
          rw [show rows.length - i = (rows.length - (i + 1)) + 1 by omega, List.replicate_succ]
        have h3 : (rows.take i ++ List.replicate (rows.length - i) [z])[i]? = some [z] := by
          rw [hrep]; exact get_row _ _ _ _ hti
        have h3' : ∀ h, (rows.take i ++ List.replicate (rows.length - i) [z])[i]'h = [z] := fun h => by rw [List.getElem?_eq_getElem h] at h3; exact Option.some.inj h3
        have h4 : (rows.take i ++ List.replicate (rows.length - i) [z]).set i [l[i]] = rows.take (i + 1) ++ List.replicate (rows.length - (i + 1)) [z] := by
          rw [hrep, set_row _ _ _ _ hti, List.take_succ_eq_append_getElem hlt, List.append_assoc, k0]; rfl
        have h5 : i < (rows.take i ++ List.replicate (rows.length - i) [z]).length := by simp; omega
        obtain ⟨y, hy⟩ : ∃ y, exC (run M) (l.length + 1) toS1l (toSst 1 [z] rows i (v, x)) = some (.normal, toSst 1 [z] rows (i + 1) y) := by
          simp only [Prod.exists]
          simp [toSst, toS1l, hlt, e5, k0, h3, h3', h4, h5, h8, setAt, -cl]
        exact .inl ⟨i + 1, y, hy, hlt, by omega, rfl⟩
      · have : i = rows.length := by omega
        subst this
        exact .inr ⟨(v, x + 64), by simp [toSst, toS1l], by simp⟩)
    (l.length + 1) 0 (Nat.zero_le _) (by omega)
  have c1 : rows.length ≤ 4294967296 := by omega
  have c2 : by' * rows.length ≤ 140737488355328 := Nat.le_trans (Nat.mul_le_mul hby (by omega : rows.length ≤ 1048576)) (by decide)
  simp [toSst] at hr
  simp [exB, toS1m, toS1b, List.range_succ, hr, c1, c2, List.take_of_length_le]

/-! ## one by one the same -/
def eqSl (n f : Nat) : C := .seq (.seq (.reg [⟨some 11, .mv (.t 5), none⟩,
    ⟨some 12, .mv (.t 0), none⟩,
    ⟨some 13, .len (.t 12), none⟩,
    ⟨some 14, .bin .lss (.t 11) (.t 13), none⟩] [0, 1, 5, 14] [])
  (.cond (.t 14) (.skip) (.exit 0)))
  (.seq (.block 1 (.seq (.regd [⟨some 17, .mv (.t 0), none⟩,
    ⟨some 18, .mv (.t 5), none⟩,
    ⟨some 19, .iaddr n (.t 17) (.t 18), none⟩,
    ⟨some 20, .load true n (.t 19), none⟩,
    ⟨some 21, .mv (.t 1), none⟩,
    ⟨some 22, .mv (.t 5), none⟩,
    ⟨some 23, .iaddr n (.t 21) (.t 22), none⟩,
    ⟨some 24, .load true n (.t 23), none⟩,
    ⟨some 25, .call f [.t 20, .t 24] [] [], none⟩,
    ⟨some 26, .not (.t 25), none⟩] [[], [], [0, 1], [0, 1, 2], [], [], [4, 5], [4, 5, 6], [0, 1, 2, 3, 4, 5, 6, 7], [0, 1, 2, 3, 4, 5, 6, 7, 8]] [0, 1, 5, 26] [])
  (.cond (.t 26) (.seq (.reg [⟨some 4, .mv (.k (.bool false)), none⟩] [4] [])
  (.ret)) (.skip))))
  (.reg [⟨some 15, .mv (.t 5), none⟩,
    ⟨some 16, .bin .add (.t 15) (.k (.int .i64 1)), none⟩,
    ⟨some 5, .mv (.t 16), none⟩] [0, 1, 5] []))
def eqSb (n f : Nat) : C := .seq (.reg [⟨some 4, .mv (.k (.bool false)), none⟩] [0, 1] [])
  (.seq (.seq (.reg [⟨some 6, .mv (.t 0), none⟩,
    ⟨some 7, .len (.t 6), none⟩,
    ⟨some 8, .mv (.t 1), none⟩,
    ⟨some 9, .len (.t 8), none⟩,
    ⟨some 10, .bin .neq (.t 7) (.t 9), none⟩] [0, 1, 10] [])
  (.cond (.t 10) (.seq (.reg [⟨some 4, .mv (.k (.bool false)), none⟩] [4] [])
  (.ret)) (.skip)))
  (.seq (.seq (.reg [⟨some 5, .mv (.k (.int .i64 0)), none⟩] [0, 1, 5] [])
  (.block 0 (.loop (eqSl n f))))
  (.seq (.reg [⟨some 4, .mv (.k (.bool true)), none⟩] [4] [])
  (.ret))))
def eqSm (n f : Nat) : Fn := { np := 2, body := eqSb n f, res := [.tmp 4] }
def eqSst (n : Nat) (rows : List (List T)) (i : Nat) (x : Nat) : St := { t := [(0, .c (.sl false n rows)), (1, .c (.sl false n rows)), (5, .c (I i))], o := [], n := x }
theorem eqS_says {F n f : Nat} (h : M F = some (.code (eqSm n f))) {rows : List (List T)} (hl : rows.length ≤ 4611686018427387904)
    (he : ∀ r ∈ rows, r.length = n ∧ r.all closedT = true ∧ run M f [.a r, .a r] [] = some (.c (.bool true), [])) :
    run M F [.c (.sl false n rows), .c (.sl false n rows)] [] = some (.c (.bool true), []) := by
  refine run_code (b := eqSm n f) h ⟨rows.length + 1, ?_⟩
  obtain ⟨g, hr⟩ := loop_all (f := exC (run M) (rows.length + 1) (eqSl n f)) (eqSst n rows) (fun i => i ≤ rows.length) (fun i => rows.length - i) (fun _ => ())
    (fun _ m => (.exit 0, { t := [(0, .c (.sl false n rows)), (1, .c (.sl false n rows)), (5, .c (I rows.length)), (14, .c (.bool false))], o := [], n := m }))
    (by
      intro i x hi
      by_cases hlt : i < rows.length
      · have e5 : IntKind.i64.wrap ((i : Int) + 1) = (i : Int) + 1 := wrap_i64 (by omega) (by omega)
        obtain ⟨k1, k2, k3⟩ := he rows[i] (List.getElem_mem hlt)
        have hc := fun nn => call_rows2 (n := nn) (o := []) k2 k2 k3
        have h6 : (List.take n rows[i]) = rows[i] := List.take_of_length_le (by omega)
        obtain ⟨y, hy⟩ : ∃ y, exC (run M) (rows.length + 1) (eqSl n f) (eqSst n rows i x) = some (.normal, eqSst n rows (i + 1) y) := by
          simp [eqSst, eqSl, hlt, e5, k1, hc, h6, keep_any, -doCall]
        exact .inl ⟨i + 1, y, hy, hlt, by omega, rfl⟩
      · have : i = rows.length := by omega
        subst this
        exact .inr ⟨x + 64, by simp [eqSst, eqSl], by simp⟩)
    (rows.length + 1) 0 (Nat.zero_le _) (by omega)
  simp [eqSst] at hr
  simp [exB, eqSm, eqSb, List.range_succ, hr]
end Mx

/-
  Numbers: what is laid over, held against, weighed, marked.
-/
namespace Mx
open Go
variable {M : Nat → Option Body}
def irow (l : List Int) : List (List T) := l.map fun n => [I n]
abbrev ints (l : List Int) : T := .sl false 1 (irow l)
theorem irow_len (l : List Int) : (irow l).length = l.length := by simp [irow]
theorem irow_at (l : List Int) (i : Nat) (h : i < (irow l).length) : (irow l)[i] = [I (l[i]'(by simpa [irow] using h))] := by simp [irow]
theorem irow_append (a b : List Int) : irow a ++ irow b = irow (a ++ b) := by simp [irow]
theorem irow_nil : irow [] = [] := rfl
theorem irow_take (l : List Int) (n : Nat) : (irow l).take n = irow (l.take n) := by simp [irow]
attribute [simp] irow_len irow_at irow_append irow_nil irow_take
/-- k, k+1, .. -/
def upto (k : Int) : Nat → List Int
  | 0 => []
  | n + 1 => upto k n ++ [k + n]
theorem upto_len (k : Int) (n : Nat) : (upto k n).length = n := by
  induction n with
  | zero => rfl
  | succ n ih => simp [upto, ih]
attribute [simp] upto_len
theorem upto_at (k : Int) (n i : Nat) (h : i < n) (h' : i < (upto k n).length) : (upto k n)[i] = k + i := by
  induction n with
  | zero => omega
  | succ n ih =>
    simp only [upto]
    by_cases e : i < n
    · rw [List.getElem_append_left (by simpa using e)]; exact ih e _
    · have : i = n := by omega
      subst this
      rw [List.getElem_append_right (by simp)]; simp

def eqI (l : List Int) (i : Nat) (x : Nat) : St := { t := [(0, .c (ints l)), (1, .c (ints l)), (5, .c (I i))], o := [], n := x }
theorem laws_eqIntS.says (h : laws_eqIntS.k M) (l : List Int) (hl : l.length ≤ 4611686018427387904) : run M 45 [.c (ints l), .c (ints l)] [] = some (.c (.bool true), []) := by
  refine run_code (b := laws_eqIntS.m) h ⟨l.length + 1, ?_⟩
  obtain ⟨g, hr⟩ := loop_all (f := exC (run M) (l.length + 1) laws_eqIntS.l0) (eqI l) (fun i => i ≤ l.length) (fun i => l.length - i) (fun _ => ())
    (fun _ m => (.exit 0, { t := [(0, .c (ints l)), (1, .c (ints l)), (5, .c (I l.length)), (14, .c (.bool false))], o := [], n := m }))
    (by
      intro i x hi
      by_cases hlt : i < l.length
      · have e5 : IntKind.i64.wrap ((i : Int) + 1) = (i : Int) + 1 := wrap_i64 (by omega) (by omega)
        obtain ⟨y, hy⟩ : ∃ y, exC (run M) (l.length + 1) laws_eqIntS.l0 (eqI l i x) = some (.normal, eqI l (i + 1) y) := by simp [eqI, laws_eqIntS.l0, hlt, e5]
        exact .inl ⟨i + 1, y, hy, hlt, by omega, rfl⟩
      · have : i = l.length := by omega
        subst this
        exact .inr ⟨x + 64, by simp [eqI, laws_eqIntS.l0], by simp⟩)
    (l.length + 1) 0 (Nat.zero_le _) (by omega)
  simp [eqI] at hr
  simp [exB, laws_eqIntS.m, laws_eqIntS.b, List.range_succ, hr]

theorem set_mid {α : Type} (a : List α) (x : α) (b : List α) (n : Nat) (h : a.length = n) (y : α) : (a ++ x :: b).set n y = a ++ y :: b := by
  subst h; simp
theorem at_mid {α : Type} (a : List α) (x : α) (b : List α) (n : Nat) (h : a.length = n) : (a ++ x :: b)[n]? = some x := by
  subst h; simp
def mkI (k : Int) (l : List Int) (i : Nat) (x : Nat) : St := { t := [(0, .c (.row 0 0 0 l.length)), (1, .c (I (k + i))), (5, .c (I i))], o := [(0, ⟨0, 1, true, false, irow (upto k i ++ l.drop i)⟩)], n := x }
theorem laws_markIntS.says (h : laws_markIntS.k M) (l : List Int) (k : Int) (hk : -9223372036854775808 ≤ k) (hl : k + l.length ≤ 9223372036854775807) (hl2 : l.length ≤ 4611686018427387904) :
    run M 46 [.c (.row 0 0 0 l.length), .c (I k)] [(0, ⟨0, 1, true, false, irow l⟩)] = some (.c (I (k + l.length)), [(0, ⟨0, 1, true, false, irow (upto k l.length)⟩)]) := by
  refine run_code (b := laws_markIntS.m) h ⟨l.length + 1, ?_⟩
  obtain ⟨g, hr⟩ := loop_all (f := exC (run M) (l.length + 1) laws_markIntS.l0) (mkI k l) (fun i => i ≤ l.length) (fun i => l.length - i) (fun _ => ())
    (fun _ m => (.exit 0, { t := [(0, .c (.row 0 0 0 l.length)), (1, .c (I (k + l.length))), (5, .c (I l.length)), (9, .c (.bool false))], o := [(0, ⟨0, 1, true, false, irow (upto k l.length)⟩)], n := m }))
    (by
      intro i x hi
      by_cases hlt : i < l.length
      · have e5 : IntKind.i64.wrap ((i : Int) + 1) = (i : Int) + 1 := wrap_i64 (by omega) (by omega)
        have e6 : IntKind.i64.wrap (k + (i : Int) + 1) = k + (i : Int) + 1 := wrap_i64 (by omega) (by omega)
        have e7 : k + ((i : Int) + 1) = k + (i : Int) + 1 := by omega
        have e8 : i + (l.length - i) = l.length := by omega
        have hd := List.drop_eq_getElem_cons hlt
        have h3 : (irow (upto k i ++ l.drop i))[i]? = some [I l[i]] := by
          rw [hd]; simp only [irow, List.map_append, List.map_cons]; exact at_mid _ _ _ _ (by simp)
        have h3' : ∀ h, (irow (upto k i ++ l.drop i))[i]'h = [I l[i]] := fun h => by rw [List.getElem?_eq_getElem h] at h3; exact Option.some.inj h3
        have h4 : (irow (upto k i ++ l.drop i)).set i [I (k + i)] = irow (upto k (i + 1) ++ l.drop (i + 1)) := by
          rw [hd]; simp only [irow, List.map_append, List.map_cons, upto, List.append_assoc, List.cons_append, List.nil_append, List.map_nil]; exact set_mid _ _ _ _ (by simp) _
        obtain ⟨y, hy⟩ : ∃ y, exC (run M) (l.length + 1) laws_markIntS.l0 (mkI k l i x) = some (.normal, mkI k l (i + 1) y) := by
          simp [mkI, laws_markIntS.l0, hlt, e5, e6, e7, e8, h3', h4, setAt, -irow_at]
        exact .inl ⟨i + 1, y, hy, hlt, by omega, rfl⟩
      · have : i = l.length := by omega
        subst this
        exact .inr ⟨x + 64, by simp [mkI, laws_markIntS.l0], by simp⟩)
    (l.length + 1) 0 (Nat.zero_le _) (by omega)
  simp [mkI, upto] at hr
  simp [exB, laws_markIntS.m, laws_markIntS.b, List.range_succ, hr]

def heI (k : Int) (n : Nat) (i : Nat) (x : Nat) : St := { t := [(0, .c (ints (upto k n))), (1, .c (I (k + i))), (5, .c (I i))], o := [], n := x }
theorem laws_heldIntS.says (h : laws_heldIntS.k M) (n : Nat) (k : Int) (hk : -9223372036854775808 ≤ k) (hl : k + n ≤ 9223372036854775807) (hl2 : n ≤ 4611686018427387904) :
    run M 47 [.c (ints (upto k n)), .c (I k)] [] = some (.c (I (k + n)), []) := by
  refine run_code (b := laws_heldIntS.m) h ⟨n + 1, ?_⟩
  obtain ⟨g, hr⟩ := loop_all (f := exC (run M) (n + 1) laws_heldIntS.l0) (heI k n) (fun i => i ≤ n) (fun i => n - i) (fun _ => ())
    (fun _ m => (.exit 0, { t := [(0, .c (ints (upto k n))), (1, .c (I (k + n))), (5, .c (I n)), (9, .c (.bool false))], o := [], n := m }))
    (by
      intro i x hi
      by_cases hlt : i < n
      · have e5 : IntKind.i64.wrap ((i : Int) + 1) = (i : Int) + 1 := wrap_i64 (by omega) (by omega)
        have e6 : IntKind.i64.wrap (k + (i : Int) + 1) = k + (i : Int) + 1 := wrap_i64 (by omega) (by omega)
        have e7 : k + ((i : Int) + 1) = k + (i : Int) + 1 := by omega
        have e8 := upto_at k n i hlt (by simpa using hlt)
        obtain ⟨y, hy⟩ : ∃ y, exC (run M) (n + 1) laws_heldIntS.l0 (heI k n i x) = some (.normal, heI k n (i + 1) y) := by
          simp [heI, laws_heldIntS.l0, hlt, e5, e6, e7, e8]
        exact .inl ⟨i + 1, y, hy, hlt, by omega, rfl⟩
      · have : i = n := by omega
        subst this
        exact .inr ⟨x + 64, by simp [heI, laws_heldIntS.l0], by simp⟩)
    (n + 1) 0 (Nat.zero_le _) (by omega)
  simp [heI] at hr
  simp [exB, laws_heldIntS.m, laws_heldIntS.b, List.range_succ, hr]
theorem irow_flat (l : List Int) : (irow l).all (fun r => r.all T.scalar) = true := by
  simp only [irow, List.all_map, List.all_eq_true]
  intro n _; rfl
attribute [simp] irow_flat

theorem laws_toIntS.says (h : laws_toIntS.k M) (l : List Int) (hl : l.length ≤ 1048576) : run M 42 [.c (ints l)] [] = some (.c (.sl true 1 (irow l)), []) := by
  have := toS1_says (M := M) (F := 42) (by' := 8) (z := .int .i64 0) h (l := l.map I) (by simpa using hl) (by omega) (fun t ht => by obtain ⟨n, _, rfl⟩ := List.mem_map.1 ht; rfl)
  rw [List.map_map] at this
  exact this
theorem laws_szIntS.says (h : laws_szIntS.k M) (l : List Int) (hl : l.length ≤ 9223372036854775807) (n : Int) (hn : 0 ≤ n) (hn' : n ≤ 9223372036854775807) : run M 108 [.c (ints l), .c (I n)] [] = some (.c (I (if n < l.length then -1 else n - l.length)), []) := by
  refine run_code (b := laws_szIntS.m) h ⟨0, ?_⟩
  have e5 : IntKind.i64.wrap (n - (l.length : Int)) = n - (l.length : Int) := wrap_i64 (by omega) (by omega)
  by_cases hc : n < l.length
  · have h1 : n - (l.length : Int) < 0 := by omega
    simp [exB, laws_szIntS.m, laws_szIntS.b, List.range_succ, e5, h1, hc]
  · have h1 : ¬ n - (l.length : Int) < 0 := by omega
    simp [exB, laws_szIntS.m, laws_szIntS.b, List.range_succ, e5, h1, hc]
end Mx

/-
  Two functions of Go's library that write into a row of integers: slices.Sort, slices.Compact, by their contracts.
-/
namespace Mx
open Go

variable {P : Program} {F : Nat → FuncId}
def rowsInts (rows : List (List T)) : Option (List Int) := mapO (fun (r : List T) => match r with
  | [.int .i64 n] => some n
  | _ => none) rows
theorem rowsInts_ok : ∀ {rows : List (List T)} {zs : List Int}, rowsInts rows = some zs → rows = irow zs
  | [], zs, h => by simp [rowsInts, mapO] at h; subst h; rfl
  | r :: rows, zs, h => by
    simp only [rowsInts, mapO] at h
    split at h
    · rename_i y ys h1 h2
      cases h
      have := rowsInts_ok (rows := rows) (zs := ys) h2
      rw [this]
      split at h1
      · cases h1; rfl
      · cases h1
    · cases h
theorem rowsInts_irow (zs : List Int) : rowsInts (irow zs) = some zs := by
  induction zs with
  | nil => rfl
  | cons z zs ih => unfold rowsInts irow at ih ⊢; simp only [List.map_cons, mapO, ih]
/-- a row of integers that is lent whole -/
def lentInts (as : List V) (lent : List (Nat × Ob)) : Option (List Int) := match as, lent with
  | [.c (.row 0 0 0 len)], [(0, ob)] => match rowsInts ob.rows with
    | some zs => if ob.ver = 0 ∧ ob.sz = 1 ∧ ob.w = true ∧ ob.bx = false ∧ zs.length = len ∧ len ≤ 4294967296 then some zs else none
    | none => none
  | _, _ => none
def sortI (zs : List Int) : List Int := zs.mergeSort fun x y => decide (x ≤ y)
def sortG (as : List V) (lent : List (Nat × Ob)) : Option (V × List (Nat × Ob)) := (lentInts as lent).map fun zs => (.tup [], [(0, ⟨0, 1, true, false, irow (sortI zs)⟩)])
def compactG (as : List V) (lent : List (Nat × Ob)) : Option (V × List (Nat × Ob)) := (lentInts as lent).map fun zs =>
  (.c (.row 0 0 0 (Lib.compact zs).length), [(0, ⟨0, 1, true, false, irow (Lib.compact zs ++ List.replicate (zs.length - (Lib.compact zs).length) 0)⟩)])
theorem lentInts_ok {as : List V} {lent : List (Nat × Ob)} {zs : List Int} (h : lentInts as lent = some zs) : as = [.c (.row 0 0 0 zs.length)] ∧ lent = [(0, ⟨0, 1, true, false, irow zs⟩)] ∧ zs.length ≤ 4294967296 := by
  unfold lentInts at h
  split at h
  · rename_i len ob
    split at h
    · rename_i zs' hz
      split at h
      · rename_i hc
        cases h
        obtain ⟨h1, h2, h3, h4, h5, h6⟩ := hc
        subst h5
        refine ⟨rfl, ?_, h6⟩
        have := rowsInts_ok hz
        obtain ⟨ver, sz, w, bx, rows⟩ := ob
        simp only at h1 h2 h3 h4 this
        subst h1 h2 h3 h4 this
        rfl
      · cases h
    · cases h
  · cases h
/-- where that row lies -/
inductive RowAt (F : Nat → FuncId) (Pr : Nat → Prop) (E0 : Nat → Option Loc) (zs : List Int) (vals : Array Value) (w : World) : Prop where
  | none (hz : zs = []) (hv : vals = #[.slice none 0 0]) (hE : E0 0 = some .nil) : RowAt F Pr E0 zs vals w
  | blk (b cap : Nat) (cs : Array Value) (e : TypeId) (fr : Nat × Nat) (hE : E0 0 = some (.blk b cap 1)) (hv : vals = #[.slice (some ⟨b, 0, none⟩) zs.length cap]) (hh : w.heap[b]? = some (.cells cs e fr)) (hs : cs.size = cap)
      (hf : ∀ o, o < cs.size → ¬ (fr.1 ≤ o ∧ o < fr.2)) (hl : zs.length ≤ cap) (hc : ∀ (i : Nat) (z : Int), zs[i]? = some z → cs[i]? = some (.int .i64 z)) : RowAt F Pr E0 zs vals w
theorem irow_cell {zs : List Int} {i j : Nat} {r : List T} {t : T} (hi : (irow zs)[i]? = some r) (hj : r[j]? = some t) : j = 0 ∧ ∃ z, zs[i]? = some z ∧ t = .int .i64 z := by
  simp only [irow, List.getElem?_map, Option.map_eq_some_iff] at hi
  obtain ⟨z, hz, rfl⟩ := hi
  cases j with
  | zero => simp at hj; exact ⟨rfl, z, hz, hj.symm⟩
  | succ j => simp at hj
theorem rowAt {Pr : Nat → Prop} {E0 : Nat → Option Loc} {zs : List Int} {vals : Array Value} {w : World}
    (En : Entry F Pr E0 [.c (.row 0 0 0 zs.length)] [(0, ⟨0, 1, true, false, irow zs⟩)] vals w) : RowAt F Pr E0 zs vals w := by
  obtain ⟨len, hq⟩ : ∃ len, len = zs.length := ⟨_, rfl⟩
  rw [← hq] at En
  have hn : vals.size = 1 := En.n.symm
  obtain ⟨x, hx⟩ : ∃ x, vals = #[x] := by
    obtain ⟨l⟩ := vals
    match l, hn with
    | [x], _ => exact ⟨x, rfl⟩
  subst hx
  have ha := En.args 0 _ x rfl rfl
  obtain ⟨_, _, _, l, hl, hr⟩ := En.objs 0 _ (by simp [get]; rfl)
  cases ha with
  | c _ _ ha =>
    cases ha with
    | row _ _ _ _ cap sz b hE hlen ho =>
      have hE' : E0 0 = some (.blk b cap sz) := hE
      rw [hE'] at hl; cases hl
      subst hq
      obtain ⟨e1, hob⟩ := hr
      simp only at e1
      subst e1
      obtain ⟨h1, h2, h3, cs, e, fr, m1, m2, m3, m4⟩ := hob
      simp only at m2 m4
      refine .blk b cap cs e fr hE (by simp [baseA, Addr.add]) m1 (by omega) m3 (by omega) ?_
      intro i z hz
      have hi : (irow zs)[i]? = some [.int .i64 z] := by simp [irow, hz]
      obtain ⟨v, hv, hrep⟩ := m4 i 0 _ _ hi rfl
      cases hrep
      simpa using hv
    | rown _ _ hE =>
      exact .none (List.eq_nil_of_length_eq_zero hq.symm) rfl hE
/-- memory behind a call that wrote just that row, and perhaps laid more behind -/
theorem rowBack {Pr : Nat → Prop} {E0 : Nat → Option Loc} {zs zs' : List Int} {w w' : World} {b cap : Nat} {cs cs' : Array Value} {e : TypeId} {fr : Nat × Nat} {res : V} {val : Value}
    (hE : E0 0 = some (.blk b cap 1)) (hh : w.heap[b]? = some (.cells cs e fr)) (hs : cs.size = cap) (hf : ∀ o, o < cs.size → ¬ (fr.1 ≤ o ∧ o < fr.2)) (hl : zs.length ≤ cap)
    (hz : zs'.length = zs.length) (h1 : w'.os = w.os) (h2 : w'.tape = w.tape) (h3 : w'.output = w.output) (hsz : w.heap.size ≤ w'.heap.size) (hh' : w'.heap[b]? = some (.cells cs' e fr)) (hs' : cs'.size = cs.size)
    (hfr : ∀ b', b' < w.heap.size → b' ≠ b → w'.heap[b']? = w.heap[b']?) (hc : ∀ (i : Nat) (z : Int), zs'[i]? = some z → cs'[i]? = some (.int .i64 z))
    (hres : ResA (rx F Pr E0 [(0, ⟨0, 1, true, false, irow zs⟩)] E0 (fun _ => none) w') (fun _ => none) [(0, ⟨0, 1, true, false, irow zs⟩)] res val) :
    Back F Pr E0 [(0, ⟨0, 1, true, false, irow zs⟩)] w E0 (fun _ => none) res [(0, ⟨0, 1, true, false, irow zs'⟩)] val w' := by
  refine ⟨h1, h2, h3, hsz, ?_, fun v l h => h, fun q b cap sz h => (by cases h), fun q q' b cap sz cap' sz' h => (by cases h), hres, ?_⟩
  · intro b' hb' hn
    refine hfr b' hb' fun q => hn ⟨0, _, cap, 1, by simp [get]; rfl, ?_⟩
    rw [q]; exact hE
  · intro p ob ob' l hp hp' hEl
    simp only [get] at hp hp'
    split at hp
    · rename_i hp0
      subst hp0
      simp only [if_true] at hp'
      cases hp; cases hp'
      rw [hE] at hEl; cases hEl
      refine ⟨⟨rfl, ?_⟩, ?_⟩
      · refine ⟨by simp [irow]; omega, ?_, ?_, cs', e, fr, hh', by simp only; omega, fun o ho => hf o (by omega), ?_⟩
        · intro i r hi
          simp only [irow, List.getElem?_map, Option.map_eq_some_iff] at hi
          obtain ⟨z, _, rfl⟩ := hi; rfl
        · intro _ i j r t hi hj
          obtain ⟨_, z, _, rfl⟩ := irow_cell hi hj
          exact .int _ _
        · intro i j r t hi hj
          obtain ⟨rfl, z, hz, rfl⟩ := irow_cell hi hj
          refine ⟨.int .i64 z, ?_, .int _ _⟩
          simp only [Nat.mul_one, Nat.add_zero]
          exact hc i z hz
      · intro i j r t hi hj
        obtain ⟨_, z, _, rfl⟩ := irow_cell hi hj
        exact .int _ _
    · simp at hp
theorem rowHolds {zs : List Int} {w : World} {b : Nat} {cs : Array Value} {e : TypeId} {fr : Nat × Nat} {cap : Nat} (hh : w.heap[b]? = some (.cells cs e fr)) (hs : cs.size = cap) (hl : zs.length ≤ cap)
    (hf : ∀ o, o < cs.size → ¬ (fr.1 ≤ o ∧ o < fr.2)) (hc : ∀ (i : Nat) (z : Int), zs[i]? = some z → cs[i]? = some (.int .i64 z)) : Sort.Holds (Value.int .i64) w b 0 zs.toArray := by
  intro j hj
  have hj' : j < zs.length := by simpa using hj
  refine ⟨?_, ?_⟩
  · have := hc j zs[j] (List.getElem?_eq_getElem hj')
    simp only [World.cell?, hh, Option.isSome_none, Bool.false_eq_true, if_false, Nat.zero_add]
    rw [this]
    simp [getElem!_pos, hj']
  · simp only [World.frozen?, hh, Nat.zero_add]
    have := hf j (by omega)
    obtain ⟨lo, hi⟩ := fr
    simp only at this
    simp only [Bool.and_eq_false_iff, decide_eq_false_iff_not]
    omega
theorem putCells_size (off : Nat) (d : Array Int) (c : Array Value) : (Sort.putCells (Value.int .i64) off d c).size = c.size := by simp [Sort.putCells]
theorem putCells_at {zs : List Int} {c : Array Value} {i : Nat} {z : Int} (h : zs[i]? = some z) (hc : i < c.size) : (Sort.putCells (Value.int .i64) 0 zs.toArray c)[i]? = some (.int .i64 z) := by
  have hi : i < zs.length := by
    rcases Nat.lt_or_ge i zs.length with q | q
    · exact q
    · rw [List.getElem?_eq_none q] at h; cases h
  have hz : zs[i]! = z := by rw [getElem!_pos zs i hi]; rw [List.getElem?_eq_getElem hi] at h; exact Option.some.inj h
  simp only [Sort.putCells, Array.getElem?_mapIdx, Array.getElem?_eq_getElem hc, Option.map_some]
  rw [if_pos ⟨Nat.zero_le _, by simpa using hi⟩]
  simp [hz]
theorem putRow_heap (w : World) (b : Nat) (d : Array Int) {cs : Array Value} {e : TypeId} {fr : Nat × Nat} (hh : w.heap[b]? = some (.cells cs e fr)) :
    (Sort.putRow (Value.int .i64) w b 0 d).heap[b]? = some (.cells (Sort.putCells (Value.int .i64) 0 d cs) e fr) ∧ ∀ b', b' ≠ b → (Sort.putRow (Value.int .i64) w b 0 d).heap[b']? = w.heap[b']? := by
  simp only [Sort.putRow, Sort.mapBlock, Array.getElem?_modify]
  refine ⟨by simp [hh, Sort.onCells], fun b' hb => ?_⟩
  rw [if_neg (fun q => hb q.symm)]
theorem grow_heap (w : World) (os : Array Obj) {b : Nat} (hb : b < w.heap.size) : (Sort.grow w os).heap[b]? = w.heap[b]? := by
  simp [Sort.grow, Array.getElem?_append, hb]
theorem ext_sort {f : Nat} (hf : okFn P F f = true)
    (hN : ∀ (p : Option Addr) (cap : Nat) (w : World), Calls P (F f) #[.slice p 0 cap] w fun e w' => e = .returned (.tuple #[]) ∧ w' = w)
    (hS : ∀ (blk off cap : Nat) (zs : List Int) (w : World), Sort.Holds (Value.int .i64) w blk off zs.toArray → blk < w.heap.size → zs.length < 4611686018427387904 → Calls P (F f) #[.slice (some ⟨blk, off, none⟩) zs.length cap] w fun e w' =>
      e = .returned (.tuple #[]) ∧ ∃ n os, w' = Sort.grow (Sort.putRow (Value.int .i64) (Sort.ahead w n) blk off (zs.mergeSort fun x y => decide (x ≤ y)).toArray) os) : ExtOk P F f sortG := by
  intro as lent res after hg
  refine ⟨hf, fun Pr E0 vals w En => ?_⟩
  unfold sortG at hg
  simp only [Option.map_eq_some_iff] at hg
  obtain ⟨zs, hz, hg⟩ := hg
  cases hg
  obtain ⟨rfl, rfl, hlen⟩ := lentInts_ok hz
  cases rowAt En with
  | none h1 h2 h3 =>
    subst h1 h2
    refine (hN none 0 w).mono ?_
    rintro e w' ⟨rfl, rfl⟩
    refine ⟨.tuple #[], E0, fun _ => none, rfl, rfl, rfl, rfl, Nat.le_refl _, fun b _ _ => rfl, fun v l h => h, fun q b cap sz h => (by cases h), fun q q' b cap sz cap' sz' h => (by cases h), by simp [ResA, ResVs], ?_⟩
    intro p ob ob' l hp hp' hE
    simp only [get] at hp hp'
    split at hp
    · rename_i hp0
      subst hp0
      simp only [if_true] at hp'
      cases hp; cases hp'
      rw [h3] at hE; cases hE
      exact ⟨⟨by simp [sortI, irow], rfl⟩, fun i j r t h => by simp [sortI, irow] at h⟩
    · simp at hp
  | blk b cap cs e fr hE hv hh hs hfz hl hc =>
    subst hv
    have hb : b < w.heap.size := by
      rcases Nat.lt_or_ge b w.heap.size with q | q
      · exact q
      · rw [Array.getElem?_eq_none q] at hh; cases hh
    refine (hS b 0 cap zs w (rowHolds hh hs hl hfz hc) hb (by omega)).mono ?_
    rintro e' w' ⟨rfl, n, os, rfl⟩
    refine ⟨.tuple #[], E0, fun _ => none, rfl, ?_⟩
    have hp := putRow_heap (Sort.ahead w n) b (sortI zs).toArray (by simpa using hh)
    have hsl : (sortI zs).length = zs.length := by simp [sortI]
    have hgb : b < (Sort.putRow (Value.int .i64) (Sort.ahead w n) b 0 (sortI zs).toArray).heap.size := by simpa using hb
    refine rowBack (zs' := sortI zs) (cs' := Sort.putCells (Value.int .i64) 0 (sortI zs).toArray cs) hE hh hs hfz hl hsl rfl rfl rfl ?_ ((grow_heap _ os hgb).trans hp.1) (putCells_size _ _ _) ?_ ?_ (by simp [ResA, ResVs])
    · simp [Sort.grow]
    · intro b' hb' hne
      rw [grow_heap _ os (by simpa using hb')]
      exact hp.2 b' hne
    · intro i z hi
      refine putCells_at hi ?_
      have : i < (sortI zs).length := by
        rcases Nat.lt_or_ge i (sortI zs).length with q | q
        · exact q
        · rw [List.getElem?_eq_none q] at hi; cases hi
      omega
theorem ext_compact {f : Nat} (hf : okFn P F f = true)
    (hN : ∀ (p : Option Addr) (cap : Nat) (w : World), Calls P (F f) #[.slice p 0 cap] w fun e w' => e = .returned (.slice p 0 cap) ∧ w' = w)
    (hS : ∀ (blk off cap : Nat) (zs : List Int) (w : World), Sort.Holds (Value.int .i64) w blk off zs.toArray → zs.length ≤ 9223372036854775807 → zs.length ≤ cap → Calls P (F f) #[.slice (some ⟨blk, off, none⟩) zs.length cap] w fun e w' =>
      e = .returned (.slice (some ⟨blk, off, none⟩) (Lib.compact zs).length cap) ∧ ∃ q, w' = Sort.putRow (Value.int .i64) (Sort.ahead w q) blk off (Lib.compact zs ++ List.replicate (zs.length - (Lib.compact zs).length) 0).toArray)
    (hlen : ∀ zs : List Int, (Lib.compact zs).length ≤ zs.length) : ExtOk P F f compactG := by
  intro as lent res after hg
  refine ⟨hf, fun Pr E0 vals w En => ?_⟩
  unfold compactG at hg
  simp only [Option.map_eq_some_iff] at hg
  obtain ⟨zs, hz, hg⟩ := hg
  cases hg
  obtain ⟨rfl, rfl, hlen'⟩ := lentInts_ok hz
  cases rowAt En with
  | none h1 h2 h3 =>
    subst h1 h2
    have hc : Lib.compact ([] : List Int) = [] := List.eq_nil_of_length_eq_zero (Nat.le_zero.1 (hlen []))
    refine (hN none 0 w).mono ?_
    rintro e w' ⟨rfl, rfl⟩
    refine ⟨.slice none 0 0, E0, fun _ => none, rfl, rfl, rfl, rfl, Nat.le_refl _, fun b _ _ => rfl, fun v l h => h, fun q b cap sz h => (by cases h), fun q q' b cap sz cap' sz' h => (by cases h), ?_, ?_⟩
    · simp only [ResA, ResV, hc, List.length_nil]
      exact .row 0 0 0 0 _ fun ob hob => .rown 0 0 h3
    intro p ob ob' l hp hp' hE
    simp only [get] at hp hp'
    split at hp
    · rename_i hp0
      subst hp0
      simp only [if_true] at hp'
      cases hp; cases hp'
      rw [h3] at hE; cases hE
      exact ⟨⟨by simp [hc, irow], rfl⟩, fun i j r t h => by simp [hc, irow] at h⟩
    · simp at hp
  | blk b cap cs e fr hE hv hh hs hfz hl hc =>
    subst hv
    have hb : b < w.heap.size := by
      rcases Nat.lt_or_ge b w.heap.size with q | q
      · exact q
      · rw [Array.getElem?_eq_none q] at hh; cases hh
    refine (hS b 0 cap zs w (rowHolds hh hs hl hfz hc) (by omega) hl).mono ?_
    have hk := hlen zs
    generalize Lib.compact zs = ks at *
    rintro e' w' ⟨rfl, n, rfl⟩
    refine ⟨.slice (some ⟨b, 0, none⟩) ks.length cap, E0, fun _ => none, rfl, ?_⟩
    obtain ⟨zz, hzz⟩ : ∃ zz, zz = ks ++ List.replicate (zs.length - ks.length) 0 := ⟨_, rfl⟩
    have hsl : zz.length = zs.length := by rw [hzz]; simp; omega
    rw [← hzz]
    have hp := putRow_heap (Sort.ahead w n) b zz.toArray (by simpa using hh)
    refine rowBack (zs' := zz) (cs' := Sort.putCells (Value.int .i64) 0 zz.toArray cs) hE hh hs hfz hl hsl rfl rfl rfl (by simp) hp.1 (putCells_size _ _ _) ?_ ?_ ?_
    · intro b' hb' hne
      exact hp.2 b' hne
    · intro i z hi
      refine putCells_at hi ?_
      have : i < zz.length := by
        rcases Nat.lt_or_ge i zz.length with q | q
        · exact q
        · rw [List.getElem?_eq_none q] at hi; cases hi
      omega
    · simp only [ResA, ResV]
      refine .row 0 0 0 ks.length _ fun ob hob => ?_
      have := Rep.row (X := rx F Pr E0 [(0, ⟨0, 1, true, false, irow zs⟩)] E0 (fun _ => none) (Sort.putRow (Value.int .i64) (Sort.ahead w n) b 0 zz.toArray)) 0 0 0 ks.length cap 1 b hE (by omega) (.inr rfl)
      simpa [baseA, Addr.add] using this
/-- a table of codes and of contracts, at any arguments -/
def tabZ (tab : List (Nat × Fn)) (ext : List (Nat × (List V → List (Nat × Ob) → Option (V × List (Nat × Ob))))) (f : Nat) : Option Body := match get tab f with
  | some b => some (.code b)
  | none => (get ext f).map fun g => .ext g
theorem table_extz {tab : List (Nat × Fn)} {ext : List (Nat × (List V → List (Nat × Ob) → Option (V × List (Nat × Ob))))} (h : ∀ p ∈ tab, okFunc P F p.1 p.2 = true) (hx : ∀ p ∈ ext, ExtOk P F p.1 p.2) : TableOk P F (tabZ tab ext) := by
  intro f
  unfold tabZ
  cases hg : get tab f with
  | some b => exact h _ (get_mem hg)
  | none =>
    cases hq : get ext f with
    | none => simp
    | some g => exact hx _ (get_mem hq)
end Mx

/-
  Small codes: spec.l06Put, spec.JoinGone, impl.JoinGone, laws.FnExactJoinGone.
-/
namespace Mx
open Go
def spec_l06Put.l0 : C := .seq (.seq (.reg [⟨some 9, .mv (.t 6), none⟩,
    ⟨some 10, .mv (.t 0), none⟩,
    ⟨some 11, .len (.t 10), none⟩,
    ⟨some 12, .bin .lss (.t 9) (.t 11), none⟩] [0, 1, 5, 6, 12] [8, 27, 31, 50])
  (.cond (.t 12) (.skip) (.exit 0)))
  (.seq (.block 1 (.seq (.reg [⟨some 15, .mv (.t 0), none⟩,
    ⟨some 16, .mv (.t 6), none⟩,
    ⟨some 17, .iaddr 1 (.t 15) (.t 16), none⟩,
    ⟨some 18, .load false 1 (.t 17), none⟩,
    ⟨some 19, .mv (.t 1), none⟩,
    ⟨some 20, .bin .lss (.t 18) (.t 19), none⟩] [0, 1, 5, 6, 20] [8, 27, 31, 50])
  (.cond (.t 20) (.reg [⟨some 21, .mv (.t 5), none⟩,
    ⟨some 22, .mv (.t 0), none⟩,
    ⟨some 23, .mv (.t 6), none⟩,
    ⟨some 24, .iaddr 1 (.t 22) (.t 23), none⟩,
    ⟨some 25, .load false 1 (.t 24), none⟩,
    ⟨some 26, .bslice 1 1 [.int .i64 0] [(0, .t 25)], none⟩,
    ⟨some 27, .app 1 8 (.t 21) (.t 26), none⟩,
    ⟨some 5, .mv (.t 27), none⟩] [0, 1, 5, 6] [8, 27, 31, 50]) (.skip))))
  (.reg [⟨some 13, .mv (.t 6), none⟩,
    ⟨some 14, .bin .add (.t 13) (.k (.int .i64 1)), none⟩,
    ⟨some 6, .mv (.t 14), none⟩] [0, 1, 5, 6] [8, 27, 31, 50]))
def spec_l06Put.l1 : C := .seq (.seq (.reg [⟨some 32, .mv (.t 7), none⟩,
    ⟨some 33, .mv (.t 0), none⟩,
    ⟨some 34, .len (.t 33), none⟩,
    ⟨some 35, .bin .lss (.t 32) (.t 34), none⟩] [0, 1, 5, 7, 35] [8, 27, 31, 50])
  (.cond (.t 35) (.skip) (.exit 2)))
  (.seq (.block 3 (.seq (.reg [⟨some 38, .mv (.t 0), none⟩,
    ⟨some 39, .mv (.t 7), none⟩,
    ⟨some 40, .iaddr 1 (.t 38) (.t 39), none⟩,
    ⟨some 41, .load false 1 (.t 40), none⟩,
    ⟨some 42, .mv (.t 1), none⟩,
    ⟨some 43, .bin .gtr (.t 41) (.t 42), none⟩] [0, 1, 5, 7, 43] [8, 27, 31, 50])
  (.cond (.t 43) (.reg [⟨some 44, .mv (.t 5), none⟩,
    ⟨some 45, .mv (.t 0), none⟩,
    ⟨some 46, .mv (.t 7), none⟩,
    ⟨some 47, .iaddr 1 (.t 45) (.t 46), none⟩,
    ⟨some 48, .load false 1 (.t 47), none⟩,
    ⟨some 49, .bslice 1 1 [.int .i64 0] [(0, .t 48)], none⟩,
    ⟨some 50, .app 1 8 (.t 44) (.t 49), none⟩,
    ⟨some 5, .mv (.t 50), none⟩] [0, 1, 5, 7] [8, 27, 31, 50]) (.skip))))
  (.reg [⟨some 36, .mv (.t 7), none⟩,
    ⟨some 37, .bin .add (.t 36) (.k (.int .i64 1)), none⟩,
    ⟨some 7, .mv (.t 37), none⟩] [0, 1, 5, 7] [8, 27, 31, 50]))
def spec_l06Put.b : C := .seq (.reg [⟨some 4, .nil 1, none⟩] [0, 1] [])
  (.seq (.reg [⟨some 8, .bslice 1 0 [.int .i64 0] [], none⟩,
    ⟨some 5, .mv (.t 8), none⟩] [0, 1, 5] [8, 27, 31, 50])
  (.seq (.seq (.reg [⟨some 6, .mv (.k (.int .i64 0)), none⟩] [0, 1, 5, 6] [8, 27, 31, 50])
  (.block 0 (.loop spec_l06Put.l0)))
  (.seq (.reg [⟨some 28, .mv (.t 5), none⟩,
    ⟨some 29, .mv (.t 1), none⟩,
    ⟨some 30, .bslice 1 1 [.int .i64 0] [(0, .t 29)], none⟩,
    ⟨some 31, .app 1 8 (.t 28) (.t 30), none⟩,
    ⟨some 5, .mv (.t 31), none⟩] [0, 1, 5] [8, 27, 31, 50])
  (.seq (.seq (.reg [⟨some 7, .mv (.k (.int .i64 0)), none⟩] [0, 1, 5, 7] [8, 27, 31, 50])
  (.block 2 (.loop spec_l06Put.l1)))
  (.seq (.reg [⟨some 51, .mv (.t 5), none⟩,
    ⟨some 4, .mv (.t 51), none⟩] [4] [4, 8, 27, 31, 50])
  (.ret))))))
def spec_l06Put.m : Fn := { np := 2, body := spec_l06Put.b, res := [.tmp 4] }
def spec_l06Put.k (M : Nat → Option Body) : Prop := M 133 = some (.code spec_l06Put.m)
def spec_JoinGone.l0 : C := .seq (.seq (.reg [⟨some 9, .mv (.t 6), none⟩,
    ⟨some 10, .mv (.t 0), none⟩,
    ⟨some 11, .len (.t 10), none⟩,
    ⟨some 12, .bin .lss (.t 9) (.t 11), none⟩] [0, 1, 5, 6, 12] [8, 12700, 14600])
  (.cond (.t 12) (.skip) (.exit 0)))
  (.seq (.block 1 (.seq (.reg [⟨some 15, .mv (.t 5), none⟩,
    ⟨some 16, .mv (.t 0), none⟩,
    ⟨some 17, .mv (.t 6), none⟩,
    ⟨some 18, .iaddr 1 (.t 16) (.t 17), none⟩,
    ⟨some 19, .load false 1 (.t 18), none⟩,
    ⟨some 20, .call 132 [.t 15, .t 19] [] [], none⟩,
    ⟨some 21, .not (.t 20), none⟩] [0, 1, 5, 6, 21] [8, 12700, 14600])
  (.cond (.t 21) (.reg [⟨some 22, .mv (.t 5), none⟩,
    ⟨some 23, .mv (.t 0), none⟩,
    ⟨some 24, .mv (.t 6), none⟩,
    ⟨some 25, .iaddr 1 (.t 23) (.t 24), none⟩,
    ⟨some 26, .load false 1 (.t 25), none⟩,
    ⟨some 27, .call 133 [.t 22, .t 26] [] [(0, 12700)], none⟩,
    ⟨some 5, .mv (.t 27), none⟩] [0, 1, 5, 6] [8, 12700, 14600]) (.skip))))
  (.reg [⟨some 13, .mv (.t 6), none⟩,
    ⟨some 14, .bin .add (.t 13) (.k (.int .i64 1)), none⟩,
    ⟨some 6, .mv (.t 14), none⟩] [0, 1, 5, 6] [8, 12700, 14600]))
def spec_JoinGone.l1 : C := .seq (.seq (.reg [⟨some 28, .mv (.t 7), none⟩,
    ⟨some 29, .mv (.t 1), none⟩,
    ⟨some 30, .len (.t 29), none⟩,
    ⟨some 31, .bin .lss (.t 28) (.t 30), none⟩] [1, 5, 7, 31] [8, 12700, 14600])
  (.cond (.t 31) (.skip) (.exit 2)))
  (.seq (.block 3 (.seq (.reg [⟨some 34, .mv (.t 5), none⟩,
    ⟨some 35, .mv (.t 1), none⟩,
    ⟨some 36, .mv (.t 7), none⟩,
    ⟨some 37, .iaddr 1 (.t 35) (.t 36), none⟩,
    ⟨some 38, .load false 1 (.t 37), none⟩,
    ⟨some 39, .call 132 [.t 34, .t 38] [] [], none⟩,
    ⟨some 40, .not (.t 39), none⟩] [1, 5, 7, 40] [8, 12700, 14600])
  (.cond (.t 40) (.reg [⟨some 41, .mv (.t 5), none⟩,
    ⟨some 42, .mv (.t 1), none⟩,
    ⟨some 43, .mv (.t 7), none⟩,
    ⟨some 44, .iaddr 1 (.t 42) (.t 43), none⟩,
    ⟨some 45, .load false 1 (.t 44), none⟩,
    ⟨some 46, .call 133 [.t 41, .t 45] [] [(0, 14600)], none⟩,
    ⟨some 5, .mv (.t 46), none⟩] [1, 5, 7] [8, 12700, 14600]) (.skip))))
  (.reg [⟨some 32, .mv (.t 7), none⟩,
    ⟨some 33, .bin .add (.t 32) (.k (.int .i64 1)), none⟩,
    ⟨some 7, .mv (.t 33), none⟩] [1, 5, 7] [8, 12700, 14600]))
def spec_JoinGone.b : C := .seq (.reg [⟨some 4, .nil 1, none⟩] [0, 1] [])
  (.seq (.reg [⟨some 8, .bslice 1 0 [.int .i64 0] [], none⟩,
    ⟨some 5, .mv (.t 8), none⟩] [0, 1, 5] [8, 12700, 14600])
  (.seq (.seq (.reg [⟨some 6, .mv (.k (.int .i64 0)), none⟩] [0, 1, 5, 6] [8, 12700, 14600])
  (.block 0 (.loop spec_JoinGone.l0)))
  (.seq (.seq (.reg [⟨some 7, .mv (.k (.int .i64 0)), none⟩] [1, 5, 7] [8, 12700, 14600])
  (.block 2 (.loop spec_JoinGone.l1)))
  (.seq (.reg [⟨some 47, .mv (.t 5), none⟩,
    ⟨some 4, .mv (.t 47), none⟩] [4] [4, 8, 12700, 14600])
  (.ret)))))
def spec_JoinGone.m : Fn := { np := 2, body := spec_JoinGone.b, res := [.tmp 4] }
def spec_JoinGone.k (M : Nat → Option Body) : Prop := M 43 = some (.code spec_JoinGone.m) ∧ spec_l06In.k M ∧ spec_l06Put.k M
def impl_JoinGone.b : C := .seq (.reg [⟨some 4, .nil 1, none⟩] [0, 1] [])
  (.seq (.reg [⟨some 6, .mv (.t 0), none⟩,
    ⟨some 7, .call 134 [.t 6] [] [(0, 10700)], none⟩,
    ⟨some 8, .mv (.t 1), none⟩,
    ⟨some 9, .app 1 8 (.t 7) (.t 8), none⟩,
    ⟨some 5, .mv (.t 9), none⟩] [5] [9, 10700])
  (.seq (.reg [⟨some 10, .mv (.t 5), none⟩,
    ⟨some 11, .call 135 [.t 10] [0] [], none⟩] [5] [9, 10700])
  (.seq (.reg [⟨some 12, .mv (.t 5), none⟩,
    ⟨some 13, .call 136 [.t 12] [0] [(0, 11300)], none⟩,
    ⟨some 4, .mv (.t 13), none⟩] [4] [4, 9, 10700, 11300])
  (.ret))))
def impl_JoinGone.m : Fn := { np := 2, body := impl_JoinGone.b, res := [.tmp 4] }
def impl_JoinGone.k (M : Nat → Option Body) : Prop := M 44 = some (.code impl_JoinGone.m) ∧ impl_copyInts.k M ∧ M 135 = some (.ext sortG) ∧ M 136 = some (.ext compactG)
def laws_FnExactJoinGone.b : C := .seq (.reg [⟨some 4, .mv (.k (.bool false)), none⟩] [0, 1] [])
  (.seq (.seq (.reg [⟨some 13, .mv (.t 0), none⟩,
    ⟨some 14, .len (.t 13), none⟩,
    ⟨some 15, .bin .gtr (.t 14) (.k (.int .i64 1048576)), none⟩] [0, 1, 15] [])
  (.cond (.t 15) (.seq (.reg [⟨some 4, .mv (.k (.bool true)), none⟩] [4] [])
  (.ret)) (.skip)))
  (.seq (.seq (.reg [⟨some 16, .mv (.t 1), none⟩,
    ⟨some 17, .len (.t 16), none⟩,
    ⟨some 18, .bin .gtr (.t 17) (.k (.int .i64 1048576)), none⟩] [0, 1, 18] [])
  (.cond (.t 18) (.seq (.reg [⟨some 4, .mv (.k (.bool true)), none⟩] [4] [])
  (.ret)) (.skip)))
  (.seq (.reg [⟨some 19, .mv (.t 0), none⟩,
    ⟨some 20, .call 42 [.t 19] [] [], none⟩,
    ⟨some 21, .mv (.t 1), none⟩,
    ⟨some 22, .call 42 [.t 21] [] [], none⟩,
    ⟨some 23, .call 43 [.t 20, .t 22] [] [], none⟩,
    ⟨some 5, .mv (.t 23), none⟩] [0, 1, 5] [])
  (.seq (.reg [⟨some 24, .mv (.t 0), none⟩,
    ⟨some 25, .call 42 [.t 24] [] [(0, 12500)], none⟩,
    ⟨some 6, .mv (.t 25), none⟩] [0, 1, 5, 6] [12500])
  (.seq (.reg [⟨some 26, .mv (.t 1), none⟩,
    ⟨some 27, .call 42 [.t 26] [] [(0, 12700)], none⟩,
    ⟨some 7, .mv (.t 27), none⟩] [0, 1, 5, 6, 7] [12500, 12700])
  (.seq (.reg [⟨some 28, .mv (.t 6), none⟩,
    ⟨some 29, .mv (.t 7), none⟩,
    ⟨some 30, .call 44 [.t 28, .t 29] [] [(0, 13000)], none⟩,
    ⟨some 8, .mv (.t 30), none⟩] [0, 1, 5, 6, 7, 8] [12500, 12700, 13000])
  (.seq (.seq (.reg [⟨some 31, .mv (.t 8), none⟩,
    ⟨some 32, .mv (.t 5), none⟩,
    ⟨some 33, .call 45 [.t 31, .t 32] [] [], none⟩,
    ⟨some 34, .not (.t 33), none⟩] [0, 1, 5, 6, 7, 8, 34] [12500, 12700, 13000])
  (.cond (.t 34) (.seq (.reg [⟨some 4, .mv (.k (.bool false)), none⟩] [4] [])
  (.ret)) (.skip)))
  (.seq (.seq (.reg [⟨some 35, .mv (.t 6), none⟩,
    ⟨some 36, .mv (.t 0), none⟩,
    ⟨some 37, .call 42 [.t 36] [] [], none⟩,
    ⟨some 38, .call 45 [.t 35, .t 37] [] [], none⟩,
    ⟨some 39, .not (.t 38), none⟩] [0, 1, 5, 6, 7, 8, 39] [12500, 12700, 13000])
  (.cond (.t 39) (.seq (.reg [⟨some 4, .mv (.k (.bool false)), none⟩] [4] [])
  (.ret)) (.skip)))
  (.seq (.seq (.reg [⟨some 40, .mv (.t 7), none⟩,
    ⟨some 41, .mv (.t 1), none⟩,
    ⟨some 42, .call 42 [.t 41] [] [], none⟩,
    ⟨some 43, .call 45 [.t 40, .t 42] [] [], none⟩,
    ⟨some 44, .not (.t 43), none⟩] [0, 1, 5, 6, 7, 8, 44] [12500, 12700, 13000])
  (.cond (.t 44) (.seq (.reg [⟨some 4, .mv (.k (.bool false)), none⟩] [4] [])
  (.ret)) (.skip)))
  (.seq (.reg [⟨some 9, .mv (.k (.int .i64 1)), none⟩] [0, 1, 5, 6, 7, 8, 9] [12500, 12700, 13000])
  (.seq (.reg [⟨some 45, .mv (.t 6), none⟩,
    ⟨some 46, .mv (.t 9), none⟩,
    ⟨some 47, .call 46 [.t 45, .t 46] [0] [], none⟩,
    ⟨some 9, .mv (.t 47), none⟩] [0, 1, 5, 7, 8, 9] [12700, 13000])
  (.seq (.reg [⟨some 48, .mv (.t 7), none⟩,
    ⟨some 49, .mv (.t 9), none⟩,
    ⟨some 50, .call 46 [.t 48, .t 49] [0] [], none⟩,
    ⟨some 9, .mv (.t 50), none⟩] [0, 1, 5, 8, 9] [13000])
  (.seq (.seq (.reg [⟨some 51, .mv (.t 9), none⟩,
    ⟨some 52, .bin .lss (.t 51) (.k (.int .i64 0)), none⟩,
    ⟨some 53, .mv (.t 52), none⟩,
    ⟨some 54, .mv (.t 8), some (53, false)⟩,
    ⟨some 55, .mv (.t 5), some (53, false)⟩,
    ⟨some 56, .call 45 [.t 54, .t 55] [] [], some (53, false)⟩,
    ⟨some 57, .not (.t 56), some (53, false)⟩,
    ⟨some 58, .pick (.t 53) (.k (.bool true)) (.t 57), none⟩] [0, 1, 5, 8, 58] [13000])
  (.cond (.t 58) (.seq (.reg [⟨some 4, .mv (.k (.bool false)), none⟩] [4] [])
  (.ret)) (.skip)))
  (.seq (.reg [⟨some 10, .mv (.k (.int .i64 1)), none⟩] [0, 1, 5, 8, 10] [13000])
  (.seq (.reg [⟨some 59, .mv (.t 8), none⟩,
    ⟨some 60, .mv (.t 10), none⟩,
    ⟨some 61, .call 46 [.t 59, .t 60] [0] [], none⟩,
    ⟨some 10, .mv (.t 61), none⟩] [0, 1, 5, 8, 10] [13000])
  (.seq (.reg [⟨some 11, .mv (.k (.int .i64 1)), none⟩] [0, 1, 5, 8, 10, 11] [13000])
  (.seq (.reg [⟨some 62, .mv (.t 8), none⟩,
    ⟨some 63, .mv (.t 11), none⟩,
    ⟨some 64, .call 47 [.t 62, .t 63] [] [], none⟩,
    ⟨some 11, .mv (.t 64), none⟩] [0, 1, 5, 8, 10, 11] [13000])
  (.seq (.seq (.reg [⟨some 65, .mv (.t 11), none⟩,
    ⟨some 66, .bin .lss (.t 65) (.k (.int .i64 0)), none⟩] [0, 1, 5, 8, 10, 11, 66] [13000])
  (.cond (.t 66) (.seq (.reg [⟨some 4, .mv (.k (.bool false)), none⟩] [4] [])
  (.ret)) (.skip)))
  (.seq (.seq (.reg [⟨some 67, .mv (.t 11), none⟩,
    ⟨some 68, .mv (.t 10), none⟩,
    ⟨some 69, .bin .neq (.t 67) (.t 68), none⟩] [0, 1, 5, 8, 10, 69] [13000])
  (.cond (.t 69) (.seq (.reg [⟨some 4, .mv (.k (.bool false)), none⟩] [4] [])
  (.ret)) (.skip)))
  (.seq (.reg [⟨some 70, .mv (.t 0), none⟩,
    ⟨some 71, .call 42 [.t 70] [] [], none⟩,
    ⟨some 72, .mv (.t 1), none⟩,
    ⟨some 73, .call 42 [.t 72] [] [], none⟩,
    ⟨some 74, .call 44 [.t 71, .t 73] [] [], none⟩,
    ⟨some 12, .mv (.t 74), none⟩] [5, 8, 10, 12] [13000])
  (.seq (.seq (.reg [⟨some 75, .mv (.t 12), none⟩,
    ⟨some 76, .mv (.t 5), none⟩,
    ⟨some 77, .call 45 [.t 75, .t 76] [] [], none⟩,
    ⟨some 78, .not (.t 77), none⟩] [8, 10, 78] [13000])
  (.cond (.t 78) (.seq (.reg [⟨some 4, .mv (.k (.bool false)), none⟩] [4] [])
  (.ret)) (.skip)))
  (.seq (.reg [⟨some 11, .mv (.k (.int .i64 1)), none⟩] [8, 10, 11] [13000])
  (.seq (.reg [⟨some 79, .mv (.t 8), none⟩,
    ⟨some 80, .mv (.t 11), none⟩,
    ⟨some 81, .call 47 [.t 79, .t 80] [] [], none⟩,
    ⟨some 11, .mv (.t 81), none⟩] [10, 11] [])
  (.seq (.seq (.reg [⟨some 82, .mv (.t 11), none⟩,
    ⟨some 83, .bin .lss (.t 82) (.k (.int .i64 0)), none⟩] [10, 11, 83] [])
  (.cond (.t 83) (.seq (.reg [⟨some 4, .mv (.k (.bool false)), none⟩] [4] [])
  (.ret)) (.skip)))
  (.seq (.seq (.reg [⟨some 84, .mv (.t 11), none⟩,
    ⟨some 85, .mv (.t 10), none⟩,
    ⟨some 86, .bin .neq (.t 84) (.t 85), none⟩] [86] [])
  (.cond (.t 86) (.seq (.reg [⟨some 4, .mv (.k (.bool false)), none⟩] [4] [])
  (.ret)) (.skip)))
  (.seq (.reg [⟨some 4, .mv (.k (.bool true)), none⟩] [4] [])
  (.ret)))))))))))))))))))))))))))
def laws_FnExactJoinGone.m : Fn := { np := 2, body := laws_FnExactJoinGone.b, res := [.tmp 4] }
def laws_FnExactJoinGone.k (M : Nat → Option Body) : Prop := M 369 = some (.code laws_FnExactJoinGone.m) ∧ laws_toIntS.k M ∧ spec_JoinGone.k M ∧ impl_JoinGone.k M ∧ laws_eqIntS.k M ∧ laws_markIntS.k M ∧ laws_heldIntS.k M
end Mx

/-
  Small codes: impl.isFlags.
-/
namespace Mx
open Go
def impl_isFlags.b : C := .seq (.reg [⟨some 2, .mv (.k (.bool false)), none⟩] [0] [])
  (.seq (.reg [⟨some 3, .mv (.t 0), none⟩,
    ⟨some 4, .call 101 [.t 3, .k (.int .i64 0), .k (.int .i64 7)] [] [], none⟩,
    ⟨some 2, .mv (.t 4), none⟩] [2] [])
  (.ret))
def impl_isFlags.m : Fn := { np := 1, body := impl_isFlags.b, res := [.tmp 2] }
def impl_isFlags.k (M : Nat → Option Body) : Prop := M 148 = some (.code impl_isFlags.m) ∧ impl_within.k M
end Mx

/-
  Small codes: laws.toBoxS, laws.toStore, laws.szBoxS, laws.szStore, laws.eqBoxS, laws.eqStore.
-/
namespace Mx
open Go
def laws_toBoxS.l0 : C := .seq (.seq (.reg [⟨some 8, .mv (.t 4), none⟩,
    ⟨some 9, .mv (.t 0), none⟩,
    ⟨some 10, .len (.t 9), none⟩,
    ⟨some 11, .bin .lss (.t 8) (.t 10), none⟩] [0, 3, 4, 11] [7])
  (.cond (.t 11) (.skip) (.exit 0)))
  (.seq (.block 1 (.reg [⟨some 14, .mv (.t 3), none⟩,
    ⟨some 15, .mv (.t 4), none⟩,
    ⟨some 16, .mv (.t 0), none⟩,
    ⟨some 17, .mv (.t 4), none⟩,
    ⟨some 18, .iaddr 7 (.t 16) (.t 17), none⟩,
    ⟨some 19, .load true 7 (.t 18), none⟩,
    ⟨some 20, .call 18 [.t 19] [] [], none⟩,
    ⟨some 21, .iaddr 7 (.t 14) (.t 15), none⟩,
    ⟨none, .store 7 (.t 21) (.t 20), none⟩] [0, 3, 4] [7]))
  (.reg [⟨some 12, .mv (.t 4), none⟩,
    ⟨some 13, .bin .add (.t 12) (.k (.int .i64 1)), none⟩,
    ⟨some 4, .mv (.t 13), none⟩] [0, 3, 4] [7]))
def laws_toBoxS.b : C := .seq (.reg [⟨some 2, .nil 7, none⟩] [0] [])
  (.seq (.reg [⟨some 5, .mv (.t 0), none⟩,
    ⟨some 6, .len (.t 5), none⟩,
    ⟨some 7, .mks 7 96 [.int .i64 0, .str ⟨#[]⟩, .int .i64 0, .int .i64 0, .int .i64 0, .nils 4, .nils 1] (.t 6), none⟩,
    ⟨some 3, .mv (.t 7), none⟩] [0, 3] [7])
  (.seq (.seq (.reg [⟨some 4, .mv (.k (.int .i64 0)), none⟩] [0, 3, 4] [7])
  (.block 0 (.loop laws_toBoxS.l0)))
  (.seq (.reg [⟨some 22, .mv (.t 3), none⟩,
    ⟨some 2, .mv (.t 22), none⟩] [2] [2, 7])
  (.ret))))
def laws_toBoxS.m : Fn := { np := 1, body := laws_toBoxS.b, res := [.tmp 2] }
def laws_toBoxS.k (M : Nat → Option Body) : Prop := M 117 = some (.code laws_toBoxS.m) ∧ laws_toBox.k M
def laws_toStore.b : C := .seq (.reg [⟨some 1, .box (.t 0), none⟩,
    ⟨some 2, .alloc [.int .i64 0, .int .i64 0, .nils 7, .nils 1], none⟩] [1, 2] [1, 2, 11200, 11600])
  (.seq (.reg [⟨some 3, .alloc [.int .i64 0, .int .i64 0, .nils 7, .nils 1], none⟩] [1, 2, 3] [1, 2, 3, 11200, 11600])
  (.seq (.reg [⟨some 4, .faddr 0 (.t 1), none⟩,
    ⟨some 5, .load false 1 (.t 4), none⟩,
    ⟨some 6, .faddr 0 (.t 3), none⟩,
    ⟨none, .store 1 (.t 6) (.t 5), none⟩] [1, 2, 3] [1, 2, 3, 11200, 11600])
  (.seq (.reg [⟨some 7, .faddr 1 (.t 1), none⟩,
    ⟨some 8, .load false 1 (.t 7), none⟩,
    ⟨some 9, .faddr 1 (.t 3), none⟩,
    ⟨none, .store 1 (.t 9) (.t 8), none⟩] [1, 2, 3] [1, 2, 3, 11200, 11600])
  (.seq (.reg [⟨some 10, .faddr 2 (.t 1), none⟩,
    ⟨some 11, .load false 1 (.t 10), none⟩,
    ⟨some 12, .call 117 [.t 11] [] [(0, 11200)], none⟩,
    ⟨some 13, .faddr 2 (.t 3), none⟩,
    ⟨none, .store 1 (.t 13) (.t 12), none⟩] [1, 2, 3] [1, 2, 3, 11200, 11600])
  (.seq (.reg [⟨some 14, .faddr 3 (.t 1), none⟩,
    ⟨some 15, .load false 1 (.t 14), none⟩,
    ⟨some 16, .call 42 [.t 15] [] [(0, 11600)], none⟩,
    ⟨some 17, .faddr 3 (.t 3), none⟩,
    ⟨none, .store 1 (.t 17) (.t 16), none⟩] [2, 3] [2, 3, 11200, 11600])
  (.seq (.reg [⟨some 18, .load true 4 (.t 3), none⟩,
    ⟨none, .store 4 (.t 2) (.t 18), none⟩] [2] [2, 11200, 11600])
  (.ret)))))))
def laws_toStore.m : Fn := { np := 1, body := laws_toStore.b, res := [.cell 2 true 4] }
def laws_toStore.k (M : Nat → Option Body) : Prop := M 30 = some (.code laws_toStore.m) ∧ laws_toIntS.k M ∧ laws_toBoxS.k M
def laws_szBoxS.l0 : C := .seq (.seq (.reg [⟨some 12, .mv (.t 5), none⟩,
    ⟨some 13, .mv (.t 0), none⟩,
    ⟨some 14, .len (.t 13), none⟩,
    ⟨some 15, .bin .lss (.t 12) (.t 14), none⟩] [0, 1, 5, 15] [])
  (.cond (.t 15) (.skip) (.exit 0)))
  (.seq (.block 1 (.seq (.reg [⟨some 18, .mv (.t 0), none⟩,
    ⟨some 19, .mv (.t 5), none⟩,
    ⟨some 20, .iaddr 7 (.t 18) (.t 19), none⟩,
    ⟨some 21, .load true 7 (.t 20), none⟩,
    ⟨some 22, .mv (.t 1), none⟩,
    ⟨some 23, .call 17 [.t 21, .t 22] [] [], none⟩,
    ⟨some 1, .mv (.t 23), none⟩] [0, 1, 5] [])
  (.seq (.reg [⟨some 24, .mv (.t 1), none⟩,
    ⟨some 25, .bin .lss (.t 24) (.k (.int .i64 0)), none⟩] [0, 1, 5, 25] [])
  (.cond (.t 25) (.seq (.reg [⟨some 4, .mv (.k (.int .i64 (-1))), none⟩] [4] [])
  (.ret)) (.skip)))))
  (.reg [⟨some 16, .mv (.t 5), none⟩,
    ⟨some 17, .bin .add (.t 16) (.k (.int .i64 1)), none⟩,
    ⟨some 5, .mv (.t 17), none⟩] [0, 1, 5] []))
def laws_szBoxS.b : C := .seq (.reg [⟨some 4, .mv (.k (.int .i64 0)), none⟩] [0, 1] [])
  (.seq (.reg [⟨some 6, .mv (.t 1), none⟩,
    ⟨some 7, .mv (.t 0), none⟩,
    ⟨some 8, .len (.t 7), none⟩,
    ⟨some 9, .bin .sub (.t 6) (.t 8), none⟩,
    ⟨some 1, .mv (.t 9), none⟩] [0, 1] [])
  (.seq (.seq (.reg [⟨some 10, .mv (.t 1), none⟩,
    ⟨some 11, .bin .lss (.t 10) (.k (.int .i64 0)), none⟩] [0, 1, 11] [])
  (.cond (.t 11) (.seq (.reg [⟨some 4, .mv (.k (.int .i64 (-1))), none⟩] [4] [])
  (.ret)) (.skip)))
  (.seq (.seq (.reg [⟨some 5, .mv (.k (.int .i64 0)), none⟩] [0, 1, 5] [])
  (.block 0 (.loop laws_szBoxS.l0)))
  (.seq (.reg [⟨some 26, .mv (.t 1), none⟩,
    ⟨some 4, .mv (.t 26), none⟩] [4] [])
  (.ret)))))
def laws_szBoxS.m : Fn := { np := 2, body := laws_szBoxS.b, res := [.tmp 4] }
def laws_szBoxS.k (M : Nat → Option Body) : Prop := M 115 = some (.code laws_szBoxS.m) ∧ laws_szBox.k M
def laws_szStore.b : C := .seq (.reg [⟨some 2, .box (.t 0), none⟩,
    ⟨some 4, .mv (.k (.int .i64 0)), none⟩] [1, 2] [2])
  (.seq (.reg [⟨some 5, .faddr 2 (.t 2), none⟩,
    ⟨some 6, .load false 1 (.t 5), none⟩,
    ⟨some 7, .mv (.t 1), none⟩,
    ⟨some 8, .call 115 [.t 6, .t 7] [] [], none⟩,
    ⟨some 1, .mv (.t 8), none⟩] [1, 2] [2])
  (.seq (.seq (.reg [⟨some 9, .mv (.t 1), none⟩,
    ⟨some 10, .bin .lss (.t 9) (.k (.int .i64 0)), none⟩] [1, 2, 10] [2])
  (.cond (.t 10) (.seq (.reg [⟨some 4, .mv (.k (.int .i64 (-1))), none⟩] [4] [])
  (.ret)) (.skip)))
  (.seq (.reg [⟨some 11, .faddr 3 (.t 2), none⟩,
    ⟨some 12, .load false 1 (.t 11), none⟩,
    ⟨some 13, .mv (.t 1), none⟩,
    ⟨some 14, .call 108 [.t 12, .t 13] [] [], none⟩,
    ⟨some 1, .mv (.t 14), none⟩] [1] [])
  (.seq (.seq (.reg [⟨some 15, .mv (.t 1), none⟩,
    ⟨some 16, .bin .lss (.t 15) (.k (.int .i64 0)), none⟩] [1, 16] [])
  (.cond (.t 16) (.seq (.reg [⟨some 4, .mv (.k (.int .i64 (-1))), none⟩] [4] [])
  (.ret)) (.skip)))
  (.seq (.reg [⟨some 17, .mv (.t 1), none⟩,
    ⟨some 4, .mv (.t 17), none⟩] [4] [])
  (.ret))))))
def laws_szStore.m : Fn := { np := 2, body := laws_szStore.b, res := [.tmp 4] }
def laws_szStore.k (M : Nat → Option Body) : Prop := M 29 = some (.code laws_szStore.m) ∧ laws_szIntS.k M ∧ laws_szBoxS.k M
def laws_eqBoxS.l0 : C := .seq (.seq (.reg [⟨some 11, .mv (.t 5), none⟩,
    ⟨some 12, .mv (.t 0), none⟩,
    ⟨some 13, .len (.t 12), none⟩,
    ⟨some 14, .bin .lss (.t 11) (.t 13), none⟩] [0, 1, 5, 14] [])
  (.cond (.t 14) (.skip) (.exit 0)))
  (.seq (.block 1 (.seq (.regd [⟨some 17, .mv (.t 0), none⟩,
    ⟨some 18, .mv (.t 5), none⟩,
    ⟨some 19, .iaddr 7 (.t 17) (.t 18), none⟩,
    ⟨some 20, .load true 7 (.t 19), none⟩,
    ⟨some 21, .mv (.t 1), none⟩,
    ⟨some 22, .mv (.t 5), none⟩,
    ⟨some 23, .iaddr 7 (.t 21) (.t 22), none⟩,
    ⟨some 24, .load true 7 (.t 23), none⟩,
    ⟨some 25, .call 21 [.t 20, .t 24] [] [], none⟩,
    ⟨some 26, .not (.t 25), none⟩] [[], [], [0, 1], [0, 1, 2], [], [], [4, 5], [4, 5, 6], [0, 1, 2, 3, 4, 5, 6, 7], [0, 1, 2, 3, 4, 5, 6, 7, 8]] [0, 1, 5, 26] [])
  (.cond (.t 26) (.seq (.reg [⟨some 4, .mv (.k (.bool false)), none⟩] [4] [])
  (.ret)) (.skip))))
  (.reg [⟨some 15, .mv (.t 5), none⟩,
    ⟨some 16, .bin .add (.t 15) (.k (.int .i64 1)), none⟩,
    ⟨some 5, .mv (.t 16), none⟩] [0, 1, 5] []))
def laws_eqBoxS.b : C := .seq (.reg [⟨some 4, .mv (.k (.bool false)), none⟩] [0, 1] [])
  (.seq (.seq (.reg [⟨some 6, .mv (.t 0), none⟩,
    ⟨some 7, .len (.t 6), none⟩,
    ⟨some 8, .mv (.t 1), none⟩,
    ⟨some 9, .len (.t 8), none⟩,
    ⟨some 10, .bin .neq (.t 7) (.t 9), none⟩] [0, 1, 10] [])
  (.cond (.t 10) (.seq (.reg [⟨some 4, .mv (.k (.bool false)), none⟩] [4] [])
  (.ret)) (.skip)))
  (.seq (.seq (.reg [⟨some 5, .mv (.k (.int .i64 0)), none⟩] [0, 1, 5] [])
  (.block 0 (.loop laws_eqBoxS.l0)))
  (.seq (.reg [⟨some 4, .mv (.k (.bool true)), none⟩] [4] [])
  (.ret))))
def laws_eqBoxS.m : Fn := { np := 2, body := laws_eqBoxS.b, res := [.tmp 4] }
def laws_eqBoxS.k (M : Nat → Option Body) : Prop := M 121 = some (.code laws_eqBoxS.m) ∧ laws_eqBox.k M
def laws_eqStore.b : C := .seq (.reg [⟨some 2, .box (.t 0), none⟩,
    ⟨some 3, .box (.t 1), none⟩,
    ⟨some 4, .mv (.k (.bool false)), none⟩] [2, 3] [2, 3])
  (.seq (.seq (.reg [⟨some 5, .faddr 0 (.t 2), none⟩,
    ⟨some 6, .load false 1 (.t 5), none⟩,
    ⟨some 7, .faddr 0 (.t 3), none⟩,
    ⟨some 8, .load false 1 (.t 7), none⟩,
    ⟨some 9, .bin .neq (.t 6) (.t 8), none⟩] [2, 3, 9] [2, 3])
  (.cond (.t 9) (.seq (.reg [⟨some 4, .mv (.k (.bool false)), none⟩] [4] [])
  (.ret)) (.skip)))
  (.seq (.seq (.reg [⟨some 10, .faddr 1 (.t 2), none⟩,
    ⟨some 11, .load false 1 (.t 10), none⟩,
    ⟨some 12, .faddr 1 (.t 3), none⟩,
    ⟨some 13, .load false 1 (.t 12), none⟩,
    ⟨some 14, .bin .neq (.t 11) (.t 13), none⟩] [2, 3, 14] [2, 3])
  (.cond (.t 14) (.seq (.reg [⟨some 4, .mv (.k (.bool false)), none⟩] [4] [])
  (.ret)) (.skip)))
  (.seq (.seq (.reg [⟨some 15, .faddr 2 (.t 2), none⟩,
    ⟨some 16, .load false 1 (.t 15), none⟩,
    ⟨some 17, .faddr 2 (.t 3), none⟩,
    ⟨some 18, .load false 1 (.t 17), none⟩,
    ⟨some 19, .call 121 [.t 16, .t 18] [] [], none⟩,
    ⟨some 20, .not (.t 19), none⟩] [2, 3, 20] [2, 3])
  (.cond (.t 20) (.seq (.reg [⟨some 4, .mv (.k (.bool false)), none⟩] [4] [])
  (.ret)) (.skip)))
  (.seq (.seq (.reg [⟨some 21, .faddr 3 (.t 2), none⟩,
    ⟨some 22, .load false 1 (.t 21), none⟩,
    ⟨some 23, .faddr 3 (.t 3), none⟩,
    ⟨some 24, .load false 1 (.t 23), none⟩,
    ⟨some 25, .call 45 [.t 22, .t 24] [] [], none⟩,
    ⟨some 26, .not (.t 25), none⟩] [26] [])
  (.cond (.t 26) (.seq (.reg [⟨some 4, .mv (.k (.bool false)), none⟩] [4] [])
  (.ret)) (.skip)))
  (.seq (.reg [⟨some 4, .mv (.k (.bool true)), none⟩] [4] [])
  (.ret))))))
def laws_eqStore.m : Fn := { np := 2, body := laws_eqStore.b, res := [.tmp 4] }
def laws_eqStore.k (M : Nat → Option Body) : Prop := M 33 = some (.code laws_eqStore.m) ∧ laws_eqIntS.k M ∧ laws_eqBoxS.k M
end Mx

/-
  Small codes: spec.SameMail, spec.l09Box, spec.Alike, slices.Equal[[]int,int], slices.Equal[[]impl.Reg,impl.Reg], impl.SameMail, slices.EqualFunc[[]impl.Mail,[]impl.Mail,impl.Mail,impl.Mail], impl.sameBox, slices.EqualFunc[[]impl.Box,[]impl.Box,impl.Box,impl.Box], impl.Alike, laws.FnExactAlike.
-/
namespace Mx
open Go
def spec_SameMail.l0 : C := .seq (.seq (.reg [⟨some 34, .mv (.t 5), none⟩,
    ⟨some 35, .faddr 2 (.t 2), none⟩,
    ⟨some 36, .load false 1 (.t 35), none⟩,
    ⟨some 37, .len (.t 36), none⟩,
    ⟨some 38, .bin .lss (.t 34) (.t 37), none⟩] [2, 3, 5, 38] [2, 3])
  (.cond (.t 38) (.skip) (.exit 0)))
  (.seq (.block 1 (.seq (.regd [⟨some 41, .faddr 2 (.t 2), none⟩,
    ⟨some 42, .load false 1 (.t 41), none⟩,
    ⟨some 43, .mv (.t 5), none⟩,
    ⟨some 44, .iaddr 3 (.t 42) (.t 43), none⟩,
    ⟨some 45, .load true 3 (.t 44), none⟩,
    ⟨some 46, .faddr 2 (.t 3), none⟩,
    ⟨some 47, .load false 1 (.t 46), none⟩,
    ⟨some 48, .mv (.t 5), none⟩,
    ⟨some 49, .iaddr 3 (.t 47) (.t 48), none⟩,
    ⟨some 50, .load true 3 (.t 49), none⟩,
    ⟨some 51, .eqs true [.int, .int, .int] (.t 45) (.t 50), none⟩] [[], [0], [], [0, 1, 2], [0, 1, 2, 3], [], [5], [], [5, 6, 7], [5, 6, 7, 8], [0, 1, 2, 3, 4, 5, 6, 7, 8, 9]] [2, 3, 5, 51] [2, 3])
  (.cond (.t 51) (.seq (.reg [⟨some 4, .mv (.k (.bool false)), none⟩] [4] [])
  (.ret)) (.skip))))
  (.reg [⟨some 39, .mv (.t 5), none⟩,
    ⟨some 40, .bin .add (.t 39) (.k (.int .i64 1)), none⟩,
    ⟨some 5, .mv (.t 40), none⟩] [2, 3, 5] [2, 3]))
def spec_SameMail.b : C := .seq (.reg [⟨some 2, .box (.t 0), none⟩,
    ⟨some 3, .box (.t 1), none⟩,
    ⟨some 4, .mv (.k (.bool false)), none⟩] [2, 3] [2, 3])
  (.seq (.seq (.reg [⟨some 6, .faddr 0 (.t 2), none⟩,
    ⟨some 7, .load false 1 (.t 6), none⟩,
    ⟨some 8, .faddr 0 (.t 3), none⟩,
    ⟨some 9, .load false 1 (.t 8), none⟩,
    ⟨some 10, .bin .neq (.t 7) (.t 9), none⟩,
    ⟨some 11, .mv (.t 10), none⟩,
    ⟨some 12, .faddr 1 (.t 2), some (11, false)⟩,
    ⟨some 13, .load false 1 (.t 12), some (11, false)⟩,
    ⟨some 14, .faddr 1 (.t 3), some (11, false)⟩,
    ⟨some 15, .load false 1 (.t 14), some (11, false)⟩,
    ⟨some 16, .bin .neq (.t 13) (.t 15), some (11, false)⟩,
    ⟨some 17, .pick (.t 11) (.k (.bool true)) (.t 16), none⟩,
    ⟨some 18, .mv (.t 17), none⟩,
    ⟨some 19, .faddr 3 (.t 2), some (18, false)⟩,
    ⟨some 20, .load false 1 (.t 19), some (18, false)⟩,
    ⟨some 21, .faddr 3 (.t 3), some (18, false)⟩,
    ⟨some 22, .load false 1 (.t 21), some (18, false)⟩,
    ⟨some 23, .bin .neq (.t 20) (.t 22), some (18, false)⟩,
    ⟨some 24, .pick (.t 18) (.k (.bool true)) (.t 23), none⟩,
    ⟨some 25, .mv (.t 24), none⟩,
    ⟨some 26, .faddr 2 (.t 2), some (25, false)⟩,
    ⟨some 27, .load false 1 (.t 26), some (25, false)⟩,
    ⟨some 28, .len (.t 27), some (25, false)⟩,
    ⟨some 29, .faddr 2 (.t 3), some (25, false)⟩,
    ⟨some 30, .load false 1 (.t 29), some (25, false)⟩,
    ⟨some 31, .len (.t 30), some (25, false)⟩,
    ⟨some 32, .bin .neq (.t 28) (.t 31), some (25, false)⟩,
    ⟨some 33, .pick (.t 25) (.k (.bool true)) (.t 32), none⟩] [2, 3, 33] [2, 3])
  (.cond (.t 33) (.seq (.reg [⟨some 4, .mv (.k (.bool false)), none⟩] [4] [])
  (.ret)) (.skip)))
  (.seq (.seq (.reg [⟨some 5, .mv (.k (.int .i64 0)), none⟩] [2, 3, 5] [2, 3])
  (.block 0 (.loop spec_SameMail.l0)))
  (.seq (.reg [⟨some 4, .mv (.k (.bool true)), none⟩] [4] [])
  (.ret))))
def spec_SameMail.m : Fn := { np := 2, body := spec_SameMail.b, res := [.tmp 4] }
def spec_SameMail.k (M : Nat → Option Body) : Prop := M 159 = some (.code spec_SameMail.m)
def spec_l09Box.l0 : C := .seq (.seq (.reg [⟨some 51, .mv (.t 5), none⟩,
    ⟨some 52, .faddr 5 (.t 2), none⟩,
    ⟨some 53, .load false 1 (.t 52), none⟩,
    ⟨some 54, .len (.t 53), none⟩,
    ⟨some 55, .bin .lss (.t 51) (.t 54), none⟩] [2, 3, 5, 55] [2, 3])
  (.cond (.t 55) (.skip) (.exit 0)))
  (.seq (.block 1 (.seq (.regd [⟨some 58, .faddr 5 (.t 2), none⟩,
    ⟨some 59, .load false 1 (.t 58), none⟩,
    ⟨some 60, .mv (.t 5), none⟩,
    ⟨some 61, .iaddr 4 (.t 59) (.t 60), none⟩,
    ⟨some 62, .load true 4 (.t 61), none⟩,
    ⟨some 63, .faddr 5 (.t 3), none⟩,
    ⟨some 64, .load false 1 (.t 63), none⟩,
    ⟨some 65, .mv (.t 5), none⟩,
    ⟨some 66, .iaddr 4 (.t 64) (.t 65), none⟩,
    ⟨some 67, .load true 4 (.t 66), none⟩,
    ⟨some 68, .call 159 [.t 62, .t 67] [] [], none⟩,
    ⟨some 69, .not (.t 68), none⟩] [[], [0], [], [0, 1, 2], [0, 1, 2, 3], [], [5], [], [5, 6, 7], [5, 6, 7, 8], [0, 1, 2, 3, 4, 5, 6, 7, 8, 9], [0, 1, 2, 3, 4, 5, 6, 7, 8, 9, 10]] [2, 3, 5, 69] [2, 3])
  (.cond (.t 69) (.seq (.reg [⟨some 4, .mv (.k (.bool false)), none⟩] [4] [])
  (.ret)) (.skip))))
  (.reg [⟨some 56, .mv (.t 5), none⟩,
    ⟨some 57, .bin .add (.t 56) (.k (.int .i64 1)), none⟩,
    ⟨some 5, .mv (.t 57), none⟩] [2, 3, 5] [2, 3]))
def spec_l09Box.l1 : C := .seq (.seq (.reg [⟨some 70, .mv (.t 6), none⟩,
    ⟨some 71, .faddr 6 (.t 2), none⟩,
    ⟨some 72, .load false 1 (.t 71), none⟩,
    ⟨some 73, .len (.t 72), none⟩,
    ⟨some 74, .bin .lss (.t 70) (.t 73), none⟩] [2, 3, 6, 74] [2, 3])
  (.cond (.t 74) (.skip) (.exit 2)))
  (.seq (.block 3 (.seq (.regd [⟨some 77, .faddr 6 (.t 2), none⟩,
    ⟨some 78, .load false 1 (.t 77), none⟩,
    ⟨some 79, .mv (.t 6), none⟩,
    ⟨some 80, .iaddr 1 (.t 78) (.t 79), none⟩,
    ⟨some 81, .load false 1 (.t 80), none⟩,
    ⟨some 82, .faddr 6 (.t 3), none⟩,
    ⟨some 83, .load false 1 (.t 82), none⟩,
    ⟨some 84, .mv (.t 6), none⟩,
    ⟨some 85, .iaddr 1 (.t 83) (.t 84), none⟩,
    ⟨some 86, .load false 1 (.t 85), none⟩,
    ⟨some 87, .bin .neq (.t 81) (.t 86), none⟩] [[], [0], [], [0, 1, 2], [0, 1, 2, 3], [], [5], [], [5, 6, 7], [5, 6, 7, 8], [0, 1, 2, 3, 4, 5, 6, 7, 8, 9]] [2, 3, 6, 87] [2, 3])
  (.cond (.t 87) (.seq (.reg [⟨some 4, .mv (.k (.bool false)), none⟩] [4] [])
  (.ret)) (.skip))))
  (.reg [⟨some 75, .mv (.t 6), none⟩,
    ⟨some 76, .bin .add (.t 75) (.k (.int .i64 1)), none⟩,
    ⟨some 6, .mv (.t 76), none⟩] [2, 3, 6] [2, 3]))
def spec_l09Box.b : C := .seq (.reg [⟨some 2, .box (.t 0), none⟩,
    ⟨some 3, .box (.t 1), none⟩,
    ⟨some 4, .mv (.k (.bool false)), none⟩] [2, 3] [2, 3])
  (.seq (.seq (.reg [⟨some 7, .faddr 0 (.t 2), none⟩,
    ⟨some 8, .load false 1 (.t 7), none⟩,
    ⟨some 9, .faddr 0 (.t 3), none⟩,
    ⟨some 10, .load false 1 (.t 9), none⟩,
    ⟨some 11, .bin .neq (.t 8) (.t 10), none⟩,
    ⟨some 12, .mv (.t 11), none⟩,
    ⟨some 13, .faddr 1 (.t 2), some (12, false)⟩,
    ⟨some 14, .load false 1 (.t 13), some (12, false)⟩,
    ⟨some 15, .faddr 1 (.t 3), some (12, false)⟩,
    ⟨some 16, .load false 1 (.t 15), some (12, false)⟩,
    ⟨some 17, .bin .neq (.t 14) (.t 16), some (12, false)⟩,
    ⟨some 18, .pick (.t 12) (.k (.bool true)) (.t 17), none⟩,
    ⟨some 19, .mv (.t 18), none⟩,
    ⟨some 20, .faddr 2 (.t 2), some (19, false)⟩,
    ⟨some 21, .load true 2 (.t 20), some (19, false)⟩,
    ⟨some 22, .faddr 2 (.t 3), some (19, false)⟩,
    ⟨some 23, .load true 2 (.t 22), some (19, false)⟩,
    ⟨some 24, .eqs true [.int, .int] (.t 21) (.t 23), some (19, false)⟩,
    ⟨some 25, .pick (.t 19) (.k (.bool true)) (.t 24), none⟩,
    ⟨some 26, .mv (.t 25), none⟩,
    ⟨some 27, .faddr 4 (.t 2), some (26, false)⟩,
    ⟨some 28, .load false 1 (.t 27), some (26, false)⟩,
    ⟨some 29, .faddr 4 (.t 3), some (26, false)⟩,
    ⟨some 30, .load false 1 (.t 29), some (26, false)⟩,
    ⟨some 31, .bin .neq (.t 28) (.t 30), some (26, false)⟩,
    ⟨some 32, .pick (.t 26) (.k (.bool true)) (.t 31), none⟩,
    ⟨some 33, .mv (.t 32), none⟩,
    ⟨some 34, .faddr 5 (.t 2), some (33, false)⟩,
    ⟨some 35, .load false 1 (.t 34), some (33, false)⟩,
    ⟨some 36, .len (.t 35), some (33, false)⟩,
    ⟨some 37, .faddr 5 (.t 3), some (33, false)⟩,
    ⟨some 38, .load false 1 (.t 37), some (33, false)⟩,
    ⟨some 39, .len (.t 38), some (33, false)⟩,
    ⟨some 40, .bin .neq (.t 36) (.t 39), some (33, false)⟩,
    ⟨some 41, .pick (.t 33) (.k (.bool true)) (.t 40), none⟩,
    ⟨some 42, .mv (.t 41), none⟩,
    ⟨some 43, .faddr 6 (.t 2), some (42, false)⟩,
    ⟨some 44, .load false 1 (.t 43), some (42, false)⟩,
    ⟨some 45, .len (.t 44), some (42, false)⟩,
    ⟨some 46, .faddr 6 (.t 3), some (42, false)⟩,
    ⟨some 47, .load false 1 (.t 46), some (42, false)⟩,
    ⟨some 48, .len (.t 47), some (42, false)⟩,
    ⟨some 49, .bin .neq (.t 45) (.t 48), some (42, false)⟩,
    ⟨some 50, .pick (.t 42) (.k (.bool true)) (.t 49), none⟩] [2, 3, 50] [2, 3])
  (.cond (.t 50) (.seq (.reg [⟨some 4, .mv (.k (.bool false)), none⟩] [4] [])
  (.ret)) (.skip)))
  (.seq (.seq (.reg [⟨some 5, .mv (.k (.int .i64 0)), none⟩] [2, 3, 5] [2, 3])
  (.block 0 (.loop spec_l09Box.l0)))
  (.seq (.seq (.reg [⟨some 6, .mv (.k (.int .i64 0)), none⟩] [2, 3, 6] [2, 3])
  (.block 2 (.loop spec_l09Box.l1)))
  (.seq (.reg [⟨some 4, .mv (.k (.bool true)), none⟩] [4] [])
  (.ret)))))
def spec_l09Box.m : Fn := { np := 2, body := spec_l09Box.b, res := [.tmp 4] }
def spec_l09Box.k (M : Nat → Option Body) : Prop := M 116 = some (.code spec_l09Box.m) ∧ spec_SameMail.k M
def spec_Alike.l0 : C := .seq (.seq (.reg [⟨some 23, .mv (.t 5), none⟩,
    ⟨some 24, .faddr 2 (.t 2), none⟩,
    ⟨some 25, .load false 1 (.t 24), none⟩,
    ⟨some 26, .len (.t 25), none⟩,
    ⟨some 27, .bin .lss (.t 23) (.t 26), none⟩] [2, 3, 5, 27] [2, 3])
  (.cond (.t 27) (.skip) (.exit 0)))
  (.seq (.block 1 (.seq (.regd [⟨some 30, .faddr 2 (.t 2), none⟩,
    ⟨some 31, .load false 1 (.t 30), none⟩,
    ⟨some 32, .mv (.t 5), none⟩,
    ⟨some 33, .iaddr 7 (.t 31) (.t 32), none⟩,
    ⟨some 34, .load true 7 (.t 33), none⟩,
    ⟨some 35, .faddr 2 (.t 3), none⟩,
    ⟨some 36, .load false 1 (.t 35), none⟩,
    ⟨some 37, .mv (.t 5), none⟩,
    ⟨some 38, .iaddr 7 (.t 36) (.t 37), none⟩,
    ⟨some 39, .load true 7 (.t 38), none⟩,
    ⟨some 40, .call 116 [.t 34, .t 39] [] [], none⟩,
    ⟨some 41, .not (.t 40), none⟩] [[], [0], [], [0, 1, 2], [0, 1, 2, 3], [], [5], [], [5, 6, 7], [5, 6, 7, 8], [0, 1, 2, 3, 4, 5, 6, 7, 8, 9], [0, 1, 2, 3, 4, 5, 6, 7, 8, 9, 10]] [2, 3, 5, 41] [2, 3])
  (.cond (.t 41) (.seq (.reg [⟨some 4, .mv (.k (.bool false)), none⟩] [4] [])
  (.ret)) (.skip))))
  (.reg [⟨some 28, .mv (.t 5), none⟩,
    ⟨some 29, .bin .add (.t 28) (.k (.int .i64 1)), none⟩,
    ⟨some 5, .mv (.t 29), none⟩] [2, 3, 5] [2, 3]))
def spec_Alike.l1 : C := .seq (.seq (.reg [⟨some 42, .mv (.t 6), none⟩,
    ⟨some 43, .faddr 3 (.t 2), none⟩,
    ⟨some 44, .load false 1 (.t 43), none⟩,
    ⟨some 45, .len (.t 44), none⟩,
    ⟨some 46, .bin .lss (.t 42) (.t 45), none⟩] [2, 3, 6, 46] [2, 3])
  (.cond (.t 46) (.skip) (.exit 2)))
  (.seq (.block 3 (.seq (.regd [⟨some 49, .faddr 3 (.t 2), none⟩,
    ⟨some 50, .load false 1 (.t 49), none⟩,
    ⟨some 51, .mv (.t 6), none⟩,
    ⟨some 52, .iaddr 1 (.t 50) (.t 51), none⟩,
    ⟨some 53, .load false 1 (.t 52), none⟩,
    ⟨some 54, .faddr 3 (.t 3), none⟩,
    ⟨some 55, .load false 1 (.t 54), none⟩,
    ⟨some 56, .mv (.t 6), none⟩,
    ⟨some 57, .iaddr 1 (.t 55) (.t 56), none⟩,
    ⟨some 58, .load false 1 (.t 57), none⟩,
    ⟨some 59, .bin .neq (.t 53) (.t 58), none⟩] [[], [0], [], [0, 1, 2], [0, 1, 2, 3], [], [5], [], [5, 6, 7], [5, 6, 7, 8], [0, 1, 2, 3, 4, 5, 6, 7, 8, 9]] [2, 3, 6, 59] [2, 3])
  (.cond (.t 59) (.seq (.reg [⟨some 4, .mv (.k (.bool false)), none⟩] [4] [])
  (.ret)) (.skip))))
  (.reg [⟨some 47, .mv (.t 6), none⟩,
    ⟨some 48, .bin .add (.t 47) (.k (.int .i64 1)), none⟩,
    ⟨some 6, .mv (.t 48), none⟩] [2, 3, 6] [2, 3]))
def spec_Alike.b : C := .seq (.reg [⟨some 2, .box (.t 0), none⟩,
    ⟨some 3, .box (.t 1), none⟩,
    ⟨some 4, .mv (.k (.bool false)), none⟩] [2, 3] [2, 3])
  (.seq (.seq (.reg [⟨some 7, .faddr 2 (.t 2), none⟩,
    ⟨some 8, .load false 1 (.t 7), none⟩,
    ⟨some 9, .len (.t 8), none⟩,
    ⟨some 10, .faddr 2 (.t 3), none⟩,
    ⟨some 11, .load false 1 (.t 10), none⟩,
    ⟨some 12, .len (.t 11), none⟩,
    ⟨some 13, .bin .neq (.t 9) (.t 12), none⟩,
    ⟨some 14, .mv (.t 13), none⟩,
    ⟨some 15, .faddr 3 (.t 2), some (14, false)⟩,
    ⟨some 16, .load false 1 (.t 15), some (14, false)⟩,
    ⟨some 17, .len (.t 16), some (14, false)⟩,
    ⟨some 18, .faddr 3 (.t 3), some (14, false)⟩,
    ⟨some 19, .load false 1 (.t 18), some (14, false)⟩,
    ⟨some 20, .len (.t 19), some (14, false)⟩,
    ⟨some 21, .bin .neq (.t 17) (.t 20), some (14, false)⟩,
    ⟨some 22, .pick (.t 14) (.k (.bool true)) (.t 21), none⟩] [2, 3, 22] [2, 3])
  (.cond (.t 22) (.seq (.reg [⟨some 4, .mv (.k (.bool false)), none⟩] [4] [])
  (.ret)) (.skip)))
  (.seq (.seq (.reg [⟨some 5, .mv (.k (.int .i64 0)), none⟩] [2, 3, 5] [2, 3])
  (.block 0 (.loop spec_Alike.l0)))
  (.seq (.seq (.reg [⟨some 6, .mv (.k (.int .i64 0)), none⟩] [2, 3, 6] [2, 3])
  (.block 2 (.loop spec_Alike.l1)))
  (.seq (.reg [⟨some 4, .mv (.k (.bool true)), none⟩] [4] [])
  (.ret)))))
def spec_Alike.m : Fn := { np := 2, body := spec_Alike.b, res := [.tmp 4] }
def spec_Alike.k (M : Nat → Option Body) : Prop := M 31 = some (.code spec_Alike.m) ∧ spec_l09Box.k M
def slices_Equal_int_int.l0 : C := .seq (.reg [⟨some 14, .bin .lss (.t 13) (.t 12), none⟩] [0, 1, 12, 13, 14] [])
  (.seq (.cond (.t 14) (.skip) (.exit 0))
  (.seq (.block 1 (.seq (.reg [⟨some 15, .mv (.t 13), none⟩,
    ⟨some 5, .mv (.t 15), none⟩] [0, 1, 5, 12, 13] [])
  (.seq (.regd [⟨some 16, .mv (.t 0), none⟩,
    ⟨some 17, .mv (.t 5), none⟩,
    ⟨some 18, .iaddr 1 (.t 16) (.t 17), none⟩,
    ⟨some 19, .load false 1 (.t 18), none⟩,
    ⟨some 20, .mv (.t 1), none⟩,
    ⟨some 21, .mv (.t 5), none⟩,
    ⟨some 22, .iaddr 1 (.t 20) (.t 21), none⟩,
    ⟨some 23, .load false 1 (.t 22), none⟩,
    ⟨some 24, .bin .neq (.t 19) (.t 23), none⟩] [[], [], [0, 1], [0, 1, 2], [], [], [4, 5], [4, 5, 6], [0, 1, 2, 3, 4, 5, 6, 7]] [0, 1, 12, 13, 24] [])
  (.cond (.t 24) (.seq (.reg [⟨some 4, .mv (.k (.bool false)), none⟩] [4] [])
  (.ret)) (.skip)))))
  (.reg [⟨some 25, .bin .add (.t 13) (.k (.int .i64 1)), none⟩,
    ⟨some 13, .mv (.t 25), none⟩] [0, 1, 12, 13] [])))
def slices_Equal_int_int.b : C := .seq (.reg [⟨some 4, .mv (.k (.bool false)), none⟩] [0, 1] [])
  (.seq (.seq (.reg [⟨some 6, .mv (.t 0), none⟩,
    ⟨some 7, .len (.t 6), none⟩,
    ⟨some 8, .mv (.t 1), none⟩,
    ⟨some 9, .len (.t 8), none⟩,
    ⟨some 10, .bin .neq (.t 7) (.t 9), none⟩] [0, 1, 10] [])
  (.cond (.t 10) (.seq (.reg [⟨some 4, .mv (.k (.bool false)), none⟩] [4] [])
  (.ret)) (.skip)))
  (.seq (.seq (.reg [⟨some 11, .mv (.t 0), none⟩,
    ⟨some 12, .len (.t 11), none⟩,
    ⟨some 13, .mv (.k (.int .i64 0)), none⟩] [0, 1, 12, 13] [])
  (.block 0 (.loop slices_Equal_int_int.l0)))
  (.seq (.reg [⟨some 4, .mv (.k (.bool true)), none⟩] [4] [])
  (.ret))))
def slices_Equal_int_int.m : Fn := { np := 2, body := slices_Equal_int_int.b, res := [.tmp 4] }
def slices_Equal_int_int.k (M : Nat → Option Body) : Prop := M 120 = some (.code slices_Equal_int_int.m)
def slices_Equal_impl_Reg_impl_Reg.l0 : C := .seq (.reg [⟨some 14, .bin .lss (.t 13) (.t 12), none⟩] [0, 1, 12, 13, 14] [])
  (.seq (.cond (.t 14) (.skip) (.exit 0))
  (.seq (.block 1 (.seq (.reg [⟨some 15, .mv (.t 13), none⟩,
    ⟨some 5, .mv (.t 15), none⟩] [0, 1, 5, 12, 13] [])
  (.seq (.regd [⟨some 16, .mv (.t 0), none⟩,
    ⟨some 17, .mv (.t 5), none⟩,
    ⟨some 18, .iaddr 3 (.t 16) (.t 17), none⟩,
    ⟨some 19, .load true 3 (.t 18), none⟩,
    ⟨some 20, .mv (.t 1), none⟩,
    ⟨some 21, .mv (.t 5), none⟩,
    ⟨some 22, .iaddr 3 (.t 20) (.t 21), none⟩,
    ⟨some 23, .load true 3 (.t 22), none⟩,
    ⟨some 24, .eqs true [.int, .int, .int] (.t 19) (.t 23), none⟩] [[], [], [0, 1], [0, 1, 2], [], [], [4, 5], [4, 5, 6], [0, 1, 2, 3, 4, 5, 6, 7]] [0, 1, 12, 13, 24] [])
  (.cond (.t 24) (.seq (.reg [⟨some 4, .mv (.k (.bool false)), none⟩] [4] [])
  (.ret)) (.skip)))))
  (.reg [⟨some 25, .bin .add (.t 13) (.k (.int .i64 1)), none⟩,
    ⟨some 13, .mv (.t 25), none⟩] [0, 1, 12, 13] [])))
def slices_Equal_impl_Reg_impl_Reg.b : C := .seq (.reg [⟨some 4, .mv (.k (.bool false)), none⟩] [0, 1] [])
  (.seq (.seq (.reg [⟨some 6, .mv (.t 0), none⟩,
    ⟨some 7, .len (.t 6), none⟩,
    ⟨some 8, .mv (.t 1), none⟩,
    ⟨some 9, .len (.t 8), none⟩,
    ⟨some 10, .bin .neq (.t 7) (.t 9), none⟩] [0, 1, 10] [])
  (.cond (.t 10) (.seq (.reg [⟨some 4, .mv (.k (.bool false)), none⟩] [4] [])
  (.ret)) (.skip)))
  (.seq (.seq (.reg [⟨some 11, .mv (.t 0), none⟩,
    ⟨some 12, .len (.t 11), none⟩,
    ⟨some 13, .mv (.k (.int .i64 0)), none⟩] [0, 1, 12, 13] [])
  (.block 0 (.loop slices_Equal_impl_Reg_impl_Reg.l0)))
  (.seq (.reg [⟨some 4, .mv (.k (.bool true)), none⟩] [4] [])
  (.ret))))
def slices_Equal_impl_Reg_impl_Reg.m : Fn := { np := 2, body := slices_Equal_impl_Reg_impl_Reg.b, res := [.tmp 4] }
def slices_Equal_impl_Reg_impl_Reg.k (M : Nat → Option Body) : Prop := M 253 = some (.code slices_Equal_impl_Reg_impl_Reg.m)
def impl_SameMail.b : C := .seq (.reg [⟨some 2, .box (.t 0), none⟩,
    ⟨some 3, .box (.t 1), none⟩,
    ⟨some 4, .mv (.k (.bool false)), none⟩] [2, 3] [2, 3])
  (.seq (.reg [⟨some 5, .faddr 0 (.t 2), none⟩,
    ⟨some 6, .load false 1 (.t 5), none⟩,
    ⟨some 7, .faddr 0 (.t 3), none⟩,
    ⟨some 8, .load false 1 (.t 7), none⟩,
    ⟨some 9, .bin .eql (.t 6) (.t 8), none⟩,
    ⟨some 10, .mv (.t 9), none⟩,
    ⟨some 11, .faddr 1 (.t 2), some (10, true)⟩,
    ⟨some 12, .load false 1 (.t 11), some (10, true)⟩,
    ⟨some 13, .faddr 1 (.t 3), some (10, true)⟩,
    ⟨some 14, .load false 1 (.t 13), some (10, true)⟩,
    ⟨some 15, .bin .eql (.t 12) (.t 14), some (10, true)⟩,
    ⟨some 16, .pick (.t 10) (.t 15) (.k (.bool false)), none⟩,
    ⟨some 17, .mv (.t 16), none⟩,
    ⟨some 18, .faddr 2 (.t 2), some (17, true)⟩,
    ⟨some 19, .load false 1 (.t 18), some (17, true)⟩,
    ⟨some 20, .faddr 2 (.t 3), some (17, true)⟩,
    ⟨some 21, .load false 1 (.t 20), some (17, true)⟩,
    ⟨some 22, .call 253 [.t 19, .t 21] [] [], some (17, true)⟩,
    ⟨some 23, .pick (.t 17) (.t 22) (.k (.bool false)), none⟩,
    ⟨some 24, .mv (.t 23), none⟩,
    ⟨some 25, .faddr 3 (.t 2), some (24, true)⟩,
    ⟨some 26, .load false 1 (.t 25), some (24, true)⟩,
    ⟨some 27, .faddr 3 (.t 3), some (24, true)⟩,
    ⟨some 28, .load false 1 (.t 27), some (24, true)⟩,
    ⟨some 29, .bin .eql (.t 26) (.t 28), some (24, true)⟩,
    ⟨some 30, .pick (.t 24) (.t 29) (.k (.bool false)), none⟩,
    ⟨some 4, .mv (.t 30), none⟩] [4] [])
  (.ret))
def impl_SameMail.m : Fn := { np := 2, body := impl_SameMail.b, res := [.tmp 4] }
def impl_SameMail.k (M : Nat → Option Body) : Prop := M 212 = some (.code impl_SameMail.m) ∧ slices_Equal_impl_Reg_impl_Reg.k M
def slices_EqualFunc_impl_Mail_impl_Mail_impl_Mail_impl_Mail.l0 : C := .seq (.reg [⟨some 18, .bin .lss (.t 17) (.t 16), none⟩] [1, 2, 15, 16, 17, 18] [])
  (.seq (.cond (.t 18) (.skip) (.exit 0))
  (.seq (.block 1 (.seq (.reg [⟨some 19, .mv (.t 17), none⟩,
    ⟨some 20, .iaddr 4 (.t 15) (.t 17), none⟩,
    ⟨some 21, .load true 4 (.t 20), none⟩,
    ⟨some 8, .alloc [.int .i64 0, .int .i64 0, .nils 3, .str ⟨#[]⟩], none⟩,
    ⟨some 7, .mv (.t 19), none⟩,
    ⟨none, .store 4 (.t 8) (.t 21), none⟩] [1, 2, 7, 8, 15, 16, 17] [8])
  (.seq (.reg [⟨some 22, .mv (.t 1), none⟩,
    ⟨some 23, .mv (.t 7), none⟩,
    ⟨some 24, .iaddr 4 (.t 22) (.t 23), none⟩,
    ⟨some 25, .load true 4 (.t 24), none⟩,
    ⟨some 9, .alloc [.int .i64 0, .int .i64 0, .nils 3, .str ⟨#[]⟩], none⟩,
    ⟨none, .store 4 (.t 9) (.t 25), none⟩] [1, 2, 8, 9, 15, 16, 17] [8, 9])
  (.seq (.reg [⟨some 26, .mv (.t 2), none⟩,
    ⟨some 27, .load true 4 (.t 8), none⟩,
    ⟨some 28, .load true 4 (.t 9), none⟩,
    ⟨some 29, .callv (.t 26) [.t 27, .t 28], none⟩,
    ⟨some 30, .not (.t 29), none⟩] [1, 2, 15, 16, 17, 30] [])
  (.cond (.t 30) (.seq (.reg [⟨some 6, .mv (.k (.bool false)), none⟩] [6] [])
  (.ret)) (.skip))))))
  (.reg [⟨some 31, .bin .add (.t 17) (.k (.int .i64 1)), none⟩,
    ⟨some 17, .mv (.t 31), none⟩] [1, 2, 15, 16, 17] [])))
def slices_EqualFunc_impl_Mail_impl_Mail_impl_Mail_impl_Mail.b : C := .seq (.reg [⟨some 6, .mv (.k (.bool false)), none⟩] [0, 1, 2] [])
  (.seq (.seq (.reg [⟨some 10, .mv (.t 0), none⟩,
    ⟨some 11, .len (.t 10), none⟩,
    ⟨some 12, .mv (.t 1), none⟩,
    ⟨some 13, .len (.t 12), none⟩,
    ⟨some 14, .bin .neq (.t 11) (.t 13), none⟩] [0, 1, 2, 14] [])
  (.cond (.t 14) (.seq (.reg [⟨some 6, .mv (.k (.bool false)), none⟩] [6] [])
  (.ret)) (.skip)))
  (.seq (.seq (.reg [⟨some 15, .mv (.t 0), none⟩,
    ⟨some 16, .len (.t 15), none⟩,
    ⟨some 17, .mv (.k (.int .i64 0)), none⟩] [1, 2, 15, 16, 17] [])
  (.block 0 (.loop slices_EqualFunc_impl_Mail_impl_Mail_impl_Mail_impl_Mail.l0)))
  (.seq (.reg [⟨some 6, .mv (.k (.bool true)), none⟩] [6] [])
  (.ret))))
def slices_EqualFunc_impl_Mail_impl_Mail_impl_Mail_impl_Mail.m : Fn := { np := 3, body := slices_EqualFunc_impl_Mail_impl_Mail_impl_Mail_impl_Mail.b, res := [.tmp 6] }
def slices_EqualFunc_impl_Mail_impl_Mail_impl_Mail_impl_Mail.k (M : Nat → Option Body) : Prop := M 211 = some (.code slices_EqualFunc_impl_Mail_impl_Mail_impl_Mail_impl_Mail.m)
def impl_sameBox.b : C := .seq (.reg [⟨some 2, .box (.t 0), none⟩,
    ⟨some 3, .box (.t 1), none⟩,
    ⟨some 4, .mv (.k (.bool false)), none⟩] [2, 3] [2, 3])
  (.seq (.reg [⟨some 5, .faddr 0 (.t 2), none⟩,
    ⟨some 6, .load false 1 (.t 5), none⟩,
    ⟨some 7, .faddr 0 (.t 3), none⟩,
    ⟨some 8, .load false 1 (.t 7), none⟩,
    ⟨some 9, .bin .eql (.t 6) (.t 8), none⟩,
    ⟨some 10, .mv (.t 9), none⟩,
    ⟨some 11, .faddr 1 (.t 2), some (10, true)⟩,
    ⟨some 12, .load false 1 (.t 11), some (10, true)⟩,
    ⟨some 13, .faddr 1 (.t 3), some (10, true)⟩,
    ⟨some 14, .load false 1 (.t 13), some (10, true)⟩,
    ⟨some 15, .bin .eql (.t 12) (.t 14), some (10, true)⟩,
    ⟨some 16, .pick (.t 10) (.t 15) (.k (.bool false)), none⟩,
    ⟨some 17, .mv (.t 16), none⟩,
    ⟨some 18, .faddr 2 (.t 2), some (17, true)⟩,
    ⟨some 19, .load true 2 (.t 18), some (17, true)⟩,
    ⟨some 20, .faddr 2 (.t 3), some (17, true)⟩,
    ⟨some 21, .load true 2 (.t 20), some (17, true)⟩,
    ⟨some 22, .eqs false [.int, .int] (.t 19) (.t 21), some (17, true)⟩,
    ⟨some 23, .pick (.t 17) (.t 22) (.k (.bool false)), none⟩,
    ⟨some 24, .mv (.t 23), none⟩,
    ⟨some 25, .faddr 4 (.t 2), some (24, true)⟩,
    ⟨some 26, .load false 1 (.t 25), some (24, true)⟩,
    ⟨some 27, .faddr 4 (.t 3), some (24, true)⟩,
    ⟨some 28, .load false 1 (.t 27), some (24, true)⟩,
    ⟨some 29, .bin .eql (.t 26) (.t 28), some (24, true)⟩,
    ⟨some 30, .pick (.t 24) (.t 29) (.k (.bool false)), none⟩,
    ⟨some 31, .mv (.t 30), none⟩,
    ⟨some 32, .faddr 5 (.t 2), some (31, true)⟩,
    ⟨some 33, .load false 1 (.t 32), some (31, true)⟩,
    ⟨some 34, .faddr 5 (.t 3), some (31, true)⟩,
    ⟨some 35, .load false 1 (.t 34), some (31, true)⟩,
    ⟨some 36, .call 211 [.t 33, .t 35, .fn 212] [] [], some (31, true)⟩,
    ⟨some 37, .pick (.t 31) (.t 36) (.k (.bool false)), none⟩,
    ⟨some 38, .mv (.t 37), none⟩,
    ⟨some 39, .faddr 6 (.t 2), some (38, true)⟩,
    ⟨some 40, .load false 1 (.t 39), some (38, true)⟩,
    ⟨some 41, .faddr 6 (.t 3), some (38, true)⟩,
    ⟨some 42, .load false 1 (.t 41), some (38, true)⟩,
    ⟨some 43, .call 120 [.t 40, .t 42] [] [], some (38, true)⟩,
    ⟨some 44, .pick (.t 38) (.t 43) (.k (.bool false)), none⟩,
    ⟨some 4, .mv (.t 44), none⟩] [4] [])
  (.ret))
def impl_sameBox.m : Fn := { np := 2, body := impl_sameBox.b, res := [.tmp 4] }
def impl_sameBox.k (M : Nat → Option Body) : Prop := M 119 = some (.code impl_sameBox.m) ∧ slices_Equal_int_int.k M ∧ slices_EqualFunc_impl_Mail_impl_Mail_impl_Mail_impl_Mail.k M ∧ impl_SameMail.k M
def slices_EqualFunc_impl_Box_impl_Box_impl_Box_impl_Box.l0 : C := .seq (.reg [⟨some 18, .bin .lss (.t 17) (.t 16), none⟩] [1, 2, 15, 16, 17, 18] [])
  (.seq (.cond (.t 18) (.skip) (.exit 0))
  (.seq (.block 1 (.seq (.reg [⟨some 19, .mv (.t 17), none⟩,
    ⟨some 20, .iaddr 7 (.t 15) (.t 17), none⟩,
    ⟨some 21, .load true 7 (.t 20), none⟩,
    ⟨some 8, .alloc [.int .i64 0, .str ⟨#[]⟩, .int .i64 0, .int .i64 0, .int .i64 0, .nils 4, .nils 1], none⟩,
    ⟨some 7, .mv (.t 19), none⟩,
    ⟨none, .store 7 (.t 8) (.t 21), none⟩] [1, 2, 7, 8, 15, 16, 17] [8])
  (.seq (.reg [⟨some 22, .mv (.t 1), none⟩,
    ⟨some 23, .mv (.t 7), none⟩,
    ⟨some 24, .iaddr 7 (.t 22) (.t 23), none⟩,
    ⟨some 25, .load true 7 (.t 24), none⟩,
    ⟨some 9, .alloc [.int .i64 0, .str ⟨#[]⟩, .int .i64 0, .int .i64 0, .int .i64 0, .nils 4, .nils 1], none⟩,
    ⟨none, .store 7 (.t 9) (.t 25), none⟩] [1, 2, 8, 9, 15, 16, 17] [8, 9])
  (.seq (.reg [⟨some 26, .mv (.t 2), none⟩,
    ⟨some 27, .load true 7 (.t 8), none⟩,
    ⟨some 28, .load true 7 (.t 9), none⟩,
    ⟨some 29, .callv (.t 26) [.t 27, .t 28], none⟩,
    ⟨some 30, .not (.t 29), none⟩] [1, 2, 15, 16, 17, 30] [])
  (.cond (.t 30) (.seq (.reg [⟨some 6, .mv (.k (.bool false)), none⟩] [6] [])
  (.ret)) (.skip))))))
  (.reg [⟨some 31, .bin .add (.t 17) (.k (.int .i64 1)), none⟩,
    ⟨some 17, .mv (.t 31), none⟩] [1, 2, 15, 16, 17] [])))
def slices_EqualFunc_impl_Box_impl_Box_impl_Box_impl_Box.b : C := .seq (.reg [⟨some 6, .mv (.k (.bool false)), none⟩] [0, 1, 2] [])
  (.seq (.seq (.reg [⟨some 10, .mv (.t 0), none⟩,
    ⟨some 11, .len (.t 10), none⟩,
    ⟨some 12, .mv (.t 1), none⟩,
    ⟨some 13, .len (.t 12), none⟩,
    ⟨some 14, .bin .neq (.t 11) (.t 13), none⟩] [0, 1, 2, 14] [])
  (.cond (.t 14) (.seq (.reg [⟨some 6, .mv (.k (.bool false)), none⟩] [6] [])
  (.ret)) (.skip)))
  (.seq (.seq (.reg [⟨some 15, .mv (.t 0), none⟩,
    ⟨some 16, .len (.t 15), none⟩,
    ⟨some 17, .mv (.k (.int .i64 0)), none⟩] [1, 2, 15, 16, 17] [])
  (.block 0 (.loop slices_EqualFunc_impl_Box_impl_Box_impl_Box_impl_Box.l0)))
  (.seq (.reg [⟨some 6, .mv (.k (.bool true)), none⟩] [6] [])
  (.ret))))
def slices_EqualFunc_impl_Box_impl_Box_impl_Box_impl_Box.m : Fn := { np := 3, body := slices_EqualFunc_impl_Box_impl_Box_impl_Box_impl_Box.b, res := [.tmp 6] }
def slices_EqualFunc_impl_Box_impl_Box_impl_Box_impl_Box.k (M : Nat → Option Body) : Prop := M 118 = some (.code slices_EqualFunc_impl_Box_impl_Box_impl_Box_impl_Box.m)
def impl_Alike.b : C := .seq (.reg [⟨some 2, .box (.t 0), none⟩,
    ⟨some 3, .box (.t 1), none⟩,
    ⟨some 4, .mv (.k (.bool false)), none⟩] [2, 3] [2, 3])
  (.seq (.reg [⟨some 5, .faddr 2 (.t 2), none⟩,
    ⟨some 6, .load false 1 (.t 5), none⟩,
    ⟨some 7, .faddr 2 (.t 3), none⟩,
    ⟨some 8, .load false 1 (.t 7), none⟩,
    ⟨some 9, .call 118 [.t 6, .t 8, .fn 119] [] [], none⟩,
    ⟨some 10, .mv (.t 9), none⟩,
    ⟨some 11, .faddr 3 (.t 2), some (10, true)⟩,
    ⟨some 12, .load false 1 (.t 11), some (10, true)⟩,
    ⟨some 13, .faddr 3 (.t 3), some (10, true)⟩,
    ⟨some 14, .load false 1 (.t 13), some (10, true)⟩,
    ⟨some 15, .call 120 [.t 12, .t 14] [] [], some (10, true)⟩,
    ⟨some 16, .pick (.t 10) (.t 15) (.k (.bool false)), none⟩,
    ⟨some 4, .mv (.t 16), none⟩] [4] [])
  (.ret))
def impl_Alike.m : Fn := { np := 2, body := impl_Alike.b, res := [.tmp 4] }
def impl_Alike.k (M : Nat → Option Body) : Prop := M 32 = some (.code impl_Alike.m) ∧ slices_EqualFunc_impl_Box_impl_Box_impl_Box_impl_Box.k M ∧ impl_sameBox.k M ∧ slices_Equal_int_int.k M
def laws_FnExactAlike.b : C := .seq (.reg [⟨some 2, .box (.t 0), none⟩,
    ⟨some 3, .box (.t 1), none⟩,
    ⟨some 4, .mv (.k (.bool false)), none⟩] [2, 3] [2, 3])
  (.seq (.reg [⟨some 5, .mv (.k (.int .i64 1048576)), none⟩] [2, 3, 5] [2, 3])
  (.seq (.reg [⟨some 10, .load true 4 (.t 2), none⟩,
    ⟨some 11, .mv (.t 5), none⟩,
    ⟨some 12, .call 29 [.t 10, .t 11] [] [], none⟩,
    ⟨some 5, .mv (.t 12), none⟩] [2, 3, 5] [2, 3])
  (.seq (.seq (.reg [⟨some 13, .mv (.t 5), none⟩,
    ⟨some 14, .bin .lss (.t 13) (.k (.int .i64 0)), none⟩] [2, 3, 5, 14] [2, 3])
  (.cond (.t 14) (.seq (.reg [⟨some 4, .mv (.k (.bool true)), none⟩] [4] [])
  (.ret)) (.skip)))
  (.seq (.reg [⟨some 15, .load true 4 (.t 3), none⟩,
    ⟨some 16, .mv (.t 5), none⟩,
    ⟨some 17, .call 29 [.t 15, .t 16] [] [], none⟩,
    ⟨some 5, .mv (.t 17), none⟩] [2, 3, 5] [2, 3])
  (.seq (.seq (.reg [⟨some 18, .mv (.t 5), none⟩,
    ⟨some 19, .bin .lss (.t 18) (.k (.int .i64 0)), none⟩] [2, 3, 19] [2, 3])
  (.cond (.t 19) (.seq (.reg [⟨some 4, .mv (.k (.bool true)), none⟩] [4] [])
  (.ret)) (.skip)))
  (.seq (.regd [⟨some 20, .load true 4 (.t 2), none⟩,
    ⟨some 21, .call 30 [.t 20] [] [], none⟩,
    ⟨some 22, .load true 4 (.t 3), none⟩,
    ⟨some 23, .call 30 [.t 22] [] [], none⟩,
    ⟨some 24, .call 31 [.t 21, .t 23] [] [], none⟩,
    ⟨some 6, .mv (.t 24), none⟩] [[], [0], [], [0, 1, 2], [0, 1, 2, 3], [0, 1, 2, 3, 4]] [2, 3, 6] [2, 3])
  (.seq (.reg [⟨some 25, .load true 4 (.t 2), none⟩,
    ⟨some 26, .call 30 [.t 25] [] [], none⟩,
    ⟨some 7, .alloc [.int .i64 0, .int .i64 0, .nils 7, .nils 1], none⟩,
    ⟨none, .store 4 (.t 7) (.t 26), none⟩] [2, 3, 6, 7] [2, 3, 7])
  (.seq (.reg [⟨some 27, .load true 4 (.t 3), none⟩,
    ⟨some 28, .call 30 [.t 27] [] [], none⟩,
    ⟨some 8, .alloc [.int .i64 0, .int .i64 0, .nils 7, .nils 1], none⟩,
    ⟨none, .store 4 (.t 8) (.t 28), none⟩] [2, 3, 6, 7, 8] [2, 3, 7, 8])
  (.seq (.reg [⟨some 29, .load true 4 (.t 7), none⟩,
    ⟨some 30, .load true 4 (.t 8), none⟩,
    ⟨some 31, .call 32 [.t 29, .t 30] [] [], none⟩,
    ⟨some 9, .mv (.t 31), none⟩] [2, 3, 6, 7, 8, 9] [2, 3, 7, 8])
  (.seq (.seq (.reg [⟨some 32, .mv (.t 9), none⟩,
    ⟨some 33, .mv (.t 6), none⟩,
    ⟨some 34, .beq true (.t 32) (.t 33), none⟩] [2, 3, 7, 8, 34] [2, 3, 7, 8])
  (.cond (.t 34) (.seq (.reg [⟨some 4, .mv (.k (.bool false)), none⟩] [4] [])
  (.ret)) (.skip)))
  (.seq (.seq (.regd [⟨some 35, .load true 4 (.t 7), none⟩,
    ⟨some 36, .load true 4 (.t 2), none⟩,
    ⟨some 37, .call 30 [.t 36] [] [], none⟩,
    ⟨some 38, .call 33 [.t 35, .t 37] [] [], none⟩,
    ⟨some 39, .not (.t 38), none⟩] [[], [], [1], [0, 1, 2], [0, 1, 2, 3]] [3, 8, 39] [3, 8])
  (.cond (.t 39) (.seq (.reg [⟨some 4, .mv (.k (.bool false)), none⟩] [4] [])
  (.ret)) (.skip)))
  (.seq (.seq (.regd [⟨some 40, .load true 4 (.t 8), none⟩,
    ⟨some 41, .load true 4 (.t 3), none⟩,
    ⟨some 42, .call 30 [.t 41] [] [], none⟩,
    ⟨some 43, .call 33 [.t 40, .t 42] [] [], none⟩,
    ⟨some 44, .not (.t 43), none⟩] [[], [], [1], [0, 1, 2], [0, 1, 2, 3]] [44] [])
  (.cond (.t 44) (.seq (.reg [⟨some 4, .mv (.k (.bool false)), none⟩] [4] [])
  (.ret)) (.skip)))
  (.seq (.reg [⟨some 4, .mv (.k (.bool true)), none⟩] [4] [])
  (.ret))))))))))))))
def laws_FnExactAlike.m : Fn := { np := 2, body := laws_FnExactAlike.b, res := [.tmp 4] }
def laws_FnExactAlike.k (M : Nat → Option Body) : Prop := M 367 = some (.code laws_FnExactAlike.m) ∧ laws_szStore.k M ∧ laws_toStore.k M ∧ spec_Alike.k M ∧ impl_Alike.k M ∧ laws_eqStore.k M
end Mx

/-
  Toward: at every input FnTokens returns true, and its arguments read as they did. No condition.
-/
import Derived.Test.YtcihgbflbmhkbaaRows
import Derived.Shelf.Lays
import Derived.Shelf.Strings.Cut
import Derived.Shelf.Vars
import Derived.Shelf.Strings.Runes
import Derived.Test.YtcihgbflbmhkbaaMxTkc
set_option linter.unusedSimpArgs false
set_option linter.unusedVariables false
namespace Go.Proofs.Ytcihgbflbmhkbaa.fnTokens
open Go.ChangeShapes Go.WideShapes Go.ChangeAt Go.RowKit
set_option linter.unusedVariables false
def num : List (Nat × Nat) := [(36, 8), (124, 37), (131, 44), (125, 38), (175, 89), (185, 90), (176, 91), (126, 39), (37, 9), (127, 40), (128, 41), (38, 10), (101, 115), (254, 141), (257, 144), (215, 93), (255, 142), (256, 143), (214, 92), (129, 42), (39, 11), (40, 12), (41, 13), (521, 3), (290, 174), (130, 43), (999998, 1), (999999, 0)]
def tab : List (Nat × Mx.Fn) := [(36, Mx.laws_big.m), (124, Mx.spec_l01New.m), (131, Mx.spec_l01Byte.m), (125, Mx.spec_l01Below.m), (175, Mx.spec_l01Once.m), (185, Mx.spec_l01Pick.m), (176, Mx.spec_l01Long.m), (126, Mx.spec_l13Token.m), (37, Mx.spec_DrawTokens.m), (127, Mx.impl_QuoteText.m), (128, Mx.impl_Decimal.m), (38, Mx.impl_TokenText.m), (101, Mx.impl_within.m), (254, Mx.impl_quoted.m), (257, Mx.internal_stringslite_HasPrefix.m), (215, Mx.strings_HasPrefix.m), (255, Mx.impl_counted.m), (256, Mx.impl_isAtom.m), (214, Mx.impl_tokenAt.m), (129, Mx.impl_said.m), (39, Mx.impl_ReadTokens.m), (40, Mx.spec_DrawPlaces.m), (41, Mx.laws_sameTokens.m), (521, Mx.laws_FnTokens.m)]
def F : Nat → FuncId := Mx.tabF num
def exts : List (Nat × (List Mx.V → List (Nat × Mx.Ob) → Option (Mx.V × List (Nat × Mx.Ob)))) := [(290, Mx.extG Mx.strings_ContainsRune.g), (130, Mx.cutG)]
def M : Nat → Option Mx.Body := Mx.tabZ tab exts
/-- the numbers of the library's functions and types here -/
def rho145 : Go.Shelf.Ren := { f := fun n => if n = 145 then 43 else if n = 220 then 94 else if n = 219 then 145 else if n = 217 then 175 else if n = 225 then 176 else if n = 224 then 177 else if n = 267 then 178 else if n = 266 then 204 else if n = 314 then 205 else n, t := fun n => if n = 59 then 82 else if n = 46 then 133 else if n = 146 then 222 else if n = 51 then 153 else n, g := fun n => if n = 1 then 0 else n }
theorem lays145 : Go.Proofs.Lays.n145 Try.prog rho145 where
  mixed := by kernel_rfl
  f145 := Try.func43.trans (congrArg some (by kernel_rfl))
  f217 := Try.func175.trans (congrArg some (by kernel_rfl))
  f219 := Try.func145.trans (congrArg some (by kernel_rfl))
  f220 := Try.func94.trans (congrArg some (by kernel_rfl))
  f224 := Try.func177.trans (congrArg some (by kernel_rfl))
  f225 := Try.func176.trans (congrArg some (by kernel_rfl))
  f266 := Try.func204.trans (congrArg some (by kernel_rfl))
  f267 := Try.func178.trans (congrArg some (by kernel_rfl))
  f314 := Try.func205.trans (congrArg some (by kernel_rfl))
  t3 := by kernel_rfl
  a3 := fun w => by kernel_rfl
  z3 := fun w => by kernel_rfl
  v3 := fun w => by kernel_rfl
  t4 := by kernel_rfl
  a4 := fun w => by kernel_rfl
  z4 := fun w => by kernel_rfl
  v4 := fun w => by kernel_rfl
  t5 := by kernel_rfl
  a5 := fun w => by kernel_rfl
  z5 := fun w => by kernel_rfl
  v5 := fun w => by kernel_rfl
  t9 := by kernel_rfl
  a9 := fun w => by kernel_rfl
  z9 := fun w => by kernel_rfl
  v9 := fun w => by kernel_rfl
  t46 := by kernel_rfl
  a46 := fun w => by kernel_rfl
  z46 := fun w => by kernel_rfl
  v46 := fun w => by kernel_rfl
  t51 := by kernel_rfl
  a51 := fun w => by kernel_rfl
  z51 := fun w => by kernel_rfl
  v51 := fun w => by kernel_rfl
  t59 := by kernel_rfl
  a59 := fun w => by kernel_rfl
  z59 := fun w => by kernel_rfl
  v59 := fun w => by kernel_rfl
  t146 := by kernel_rfl
  a146 := fun w => by kernel_rfl
  z146 := fun w => by kernel_rfl
  v146 := fun w => by kernel_rfl
  g1 := by kernel_rfl
/-- the numbers of the library's functions and types here -/
def rho151 : Go.Shelf.Ren := { f := fun n => if n = 151 then 174 else if n = 152 then 203 else if n = 137 then 221 else if n = 119 then 222 else if n = 224 then 177 else if n = 225 then 176 else if n = 217 then 175 else if n = 266 then 204 else n, t := fun n => if n = 46 then 133 else n, g := fun n => n }
theorem lays151 : Go.Proofs.Lays.n151 Try.prog rho151 where
  mixed := by kernel_rfl
  f119 := Try.func222.trans (congrArg some (by kernel_rfl))
  f137 := Try.func221.trans (congrArg some (by kernel_rfl))
  f151 := Try.func174.trans (congrArg some (by kernel_rfl))
  f152 := Try.func203.trans (congrArg some (by kernel_rfl))
  f217 := Try.func175.trans (congrArg some (by kernel_rfl))
  f224 := Try.func177.trans (congrArg some (by kernel_rfl))
  f225 := Try.func176.trans (congrArg some (by kernel_rfl))
  f266 := Try.func204.trans (congrArg some (by kernel_rfl))
  t0 := by kernel_rfl
  a0 := fun w => by kernel_rfl
  z0 := fun w => by kernel_rfl
  v0 := fun w => by kernel_rfl
  t3 := by kernel_rfl
  a3 := fun w => by kernel_rfl
  z3 := fun w => by kernel_rfl
  v3 := fun w => by kernel_rfl
  t4 := by kernel_rfl
  a4 := fun w => by kernel_rfl
  z4 := fun w => by kernel_rfl
  v4 := fun w => by kernel_rfl
  t5 := by kernel_rfl
  a5 := fun w => by kernel_rfl
  z5 := fun w => by kernel_rfl
  v5 := fun w => by kernel_rfl
  t9 := by kernel_rfl
  a9 := fun w => by kernel_rfl
  z9 := fun w => by kernel_rfl
  v9 := fun w => by kernel_rfl
  t21 := by kernel_rfl
  a21 := fun w => by kernel_rfl
  z21 := fun w => by kernel_rfl
  v21 := fun w => by kernel_rfl
  t46 := by kernel_rfl
  a46 := fun w => by kernel_rfl
  z46 := fun w => by kernel_rfl
  v46 := fun w => by kernel_rfl
theorem ext290 : Mx.ExtOk Try.prog F 290 (Mx.extG Mx.strings_ContainsRune.g) := by
  refine Mx.ext_plain (by kernel_rfl) fun ts r h => ?_
  unfold Mx.strings_ContainsRune.g at h
  split at h
  · rename_i s r'
    split at h
    · rename_i hr
      cases h
      exact ⟨[.string s, .int .i32 r'], _, rfl, rfl, fun w => Go.Proofs.Any.strings_ContainsRune_ascii lays151 s r' w hr.1 hr.2⟩
    · cases h
  · cases h
theorem ext130 : Mx.ExtOk Try.prog F 130 Mx.cutG :=
  Mx.ext_cut (by kernel_rfl) (by decide) fun s sep m w hs hm => Go.Proofs.Any.strings_Cut lays145 s sep m w hs hm
theorem ok36 : Mx.okFunc Try.prog F 36 Mx.laws_big.m = true := by kernel_rfl
theorem ok124 : Mx.okFunc Try.prog F 124 Mx.spec_l01New.m = true := by kernel_rfl
theorem ok131 : Mx.okFunc Try.prog F 131 Mx.spec_l01Byte.m = true := by kernel_rfl
theorem ok125 : Mx.okFunc Try.prog F 125 Mx.spec_l01Below.m = true := by kernel_rfl
theorem ok175 : Mx.okFunc Try.prog F 175 Mx.spec_l01Once.m = true := by kernel_rfl
theorem ok185 : Mx.okFunc Try.prog F 185 Mx.spec_l01Pick.m = true := by kernel_rfl
theorem ok176 : Mx.okFunc Try.prog F 176 Mx.spec_l01Long.m = true := by kernel_rfl
theorem ok126 : Mx.okFunc Try.prog F 126 Mx.spec_l13Token.m = true := by kernel_rfl
theorem ok37 : Mx.okFunc Try.prog F 37 Mx.spec_DrawTokens.m = true := by kernel_rfl
theorem ok127 : Mx.okFunc Try.prog F 127 Mx.impl_QuoteText.m = true := by kernel_rfl
theorem ok128 : Mx.okFunc Try.prog F 128 Mx.impl_Decimal.m = true := by kernel_rfl
theorem ok38 : Mx.okFunc Try.prog F 38 Mx.impl_TokenText.m = true := by kernel_rfl
theorem ok101 : Mx.okFunc Try.prog F 101 Mx.impl_within.m = true := by kernel_rfl
theorem ok254 : Mx.okFunc Try.prog F 254 Mx.impl_quoted.m = true := by kernel_rfl
theorem ok257 : Mx.okFunc Try.prog F 257 Mx.internal_stringslite_HasPrefix.m = true := by kernel_rfl
theorem ok215 : Mx.okFunc Try.prog F 215 Mx.strings_HasPrefix.m = true := by kernel_rfl
theorem ok255 : Mx.okFunc Try.prog F 255 Mx.impl_counted.m = true := by kernel_rfl
theorem ok256 : Mx.okFunc Try.prog F 256 Mx.impl_isAtom.m = true := by kernel_rfl
theorem ok214 : Mx.okFunc Try.prog F 214 Mx.impl_tokenAt.m = true := by kernel_rfl
theorem ok129 : Mx.okFunc Try.prog F 129 Mx.impl_said.m = true := by kernel_rfl
theorem ok39 : Mx.okFunc Try.prog F 39 Mx.impl_ReadTokens.m = true := by kernel_rfl
theorem ok40 : Mx.okFunc Try.prog F 40 Mx.spec_DrawPlaces.m = true := by kernel_rfl
theorem ok41 : Mx.okFunc Try.prog F 41 Mx.laws_sameTokens.m = true := by kernel_rfl
theorem ok521 : Mx.okFunc Try.prog F 521 Mx.laws_FnTokens.m = true := by kernel_rfl
theorem table : Mx.TableOk Try.prog F M := by
  refine Mx.table_extz ?_ ?_
  · simp only [tab, List.forall_mem_cons]
    exact ⟨ok36, ok124, ok131, ok125, ok175, ok185, ok176, ok126, ok37, ok127, ok128, ok38, ok101, ok254, ok257, ok215, ok255, ok256, ok214, ok129, ok39, ok40, ok41, ok521, by simp⟩
  · simp only [exts, List.forall_mem_cons]
    exact ⟨ext290, ext130, by simp⟩
theorem k36 : Mx.laws_big.k M := rfl
theorem k124 : Mx.spec_l01New.k M := rfl
theorem k131 : Mx.spec_l01Byte.k M := rfl
theorem k125 : Mx.spec_l01Below.k M := ⟨rfl, k131⟩
theorem k175 : Mx.spec_l01Once.k M := ⟨rfl, k125⟩
theorem k185 : Mx.spec_l01Pick.k M := ⟨rfl, k125⟩
theorem k176 : Mx.spec_l01Long.k M := rfl
theorem k126 : Mx.spec_l13Token.k M := ⟨rfl, k175, k176, k185⟩
theorem k37 : Mx.spec_DrawTokens.k M := ⟨rfl, k124, k125, k126⟩
theorem k127 : Mx.impl_QuoteText.k M := rfl
theorem k128 : Mx.impl_Decimal.k M := rfl
theorem k38 : Mx.impl_TokenText.k M := ⟨rfl, k127, k128⟩
theorem k101 : Mx.impl_within.k M := rfl
theorem k254 : Mx.impl_quoted.k M := rfl
theorem k257 : Mx.internal_stringslite_HasPrefix.k M := rfl
theorem k215 : Mx.strings_HasPrefix.k M := ⟨rfl, k257⟩
theorem k255 : Mx.impl_counted.k M := ⟨rfl, k215⟩
theorem k256 : Mx.impl_isAtom.k M := ⟨rfl, rfl⟩
theorem k214 : Mx.impl_tokenAt.k M := ⟨rfl, k101, k254, k255, k256⟩
theorem k129 : Mx.impl_said.k M := ⟨rfl, k214, k215⟩
theorem k39 : Mx.impl_ReadTokens.k M := ⟨rfl, k129, rfl⟩
theorem k40 : Mx.spec_DrawPlaces.k M := ⟨rfl, k124, k125, k131⟩
theorem k41 : Mx.laws_sameTokens.k M := rfl
theorem k521 : Mx.laws_FnTokens.k M := ⟨rfl, k36, k37, k38, k39, k40, k41⟩
theorem hglob (W : World) (h : W.ShapedOpen Try.prog) : ∃ m, W.cell? ⟨F 999999, 0, none⟩ = some (.int .i64 m) :=
  Go.Proofs.cell_of_shapedOpen_int (g := 0) (t := 3) (zero := #[.int .i64 0]) h (of_decide_eq_true (by kernel_rfl)) (by kernel_rfl) rfl (by kernel_rfl) (by kernel_rfl) (by kernel_rfl)

end Go.Proofs.Ytcihgbflbmhkbaa.fnTokens

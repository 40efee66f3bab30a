/-
  PROVED: at every input FnExactTokenText returns true, and its arguments read as they did. No condition.
-/
import Derived.Test.YteeddgnjannecaaRows
import Derived.Test.YteeddgnjannecaaMxT
namespace Go.Proofs.Yteeddgnjannecaa.fnExactTokenText
open Go.ChangeShapes Go.WideShapes Go.ChangeAt Go.RowKit
set_option linter.unusedVariables false
def num : List (Nat × Nat) := [(337, 22), (319, 10), (247, 49), (197, 41), (328, 23), (338, 24), (127, 11), (128, 42), (38, 25), (353, 6)]
def tab : List (Nat × Mx.Fn) := [(337, Mx.laws_szToken.m), (319, Mx.spec_QuoteText.m), (247, Mx.spec_l01Figure.m), (197, Mx.spec_Decimal.m), (328, Mx.spec_TokenText.m), (338, Mx.laws_toToken.m), (127, Mx.impl_QuoteText.m), (128, Mx.impl_Decimal.m), (38, Mx.impl_TokenText.m), (353, Mx.laws_FnExactTokenText.m)]
def F : Nat → FuncId := Mx.tabF num
def M : Nat → Option Mx.Body := Mx.tabM tab
theorem ok337 : Mx.okFunc Try.prog F 337 Mx.laws_szToken.m = true := by kernel_rfl
theorem ok319 : Mx.okFunc Try.prog F 319 Mx.spec_QuoteText.m = true := by kernel_rfl
theorem ok247 : Mx.okFunc Try.prog F 247 Mx.spec_l01Figure.m = true := by kernel_rfl
theorem ok197 : Mx.okFunc Try.prog F 197 Mx.spec_Decimal.m = true := by kernel_rfl
theorem ok328 : Mx.okFunc Try.prog F 328 Mx.spec_TokenText.m = true := by kernel_rfl
theorem ok338 : Mx.okFunc Try.prog F 338 Mx.laws_toToken.m = true := by kernel_rfl
theorem ok127 : Mx.okFunc Try.prog F 127 Mx.impl_QuoteText.m = true := by kernel_rfl
theorem ok128 : Mx.okFunc Try.prog F 128 Mx.impl_Decimal.m = true := by kernel_rfl
theorem ok38 : Mx.okFunc Try.prog F 38 Mx.impl_TokenText.m = true := by kernel_rfl
theorem ok353 : Mx.okFunc Try.prog F 353 Mx.laws_FnExactTokenText.m = true := by kernel_rfl
theorem table : Mx.TableOk Try.prog F M := by
  refine Mx.table_list ?_
  simp only [tab, List.forall_mem_cons]
  exact ⟨ok337, ok319, ok247, ok197, ok328, ok338, ok127, ok128, ok38, ok353, by simp⟩
theorem k337 : Mx.laws_szToken.k M := rfl
theorem k319 : Mx.spec_QuoteText.k M := rfl
theorem k247 : Mx.spec_l01Figure.k M := rfl
theorem k197 : Mx.spec_Decimal.k M := ⟨rfl, k247⟩
theorem k328 : Mx.spec_TokenText.k M := ⟨rfl, k197, k319⟩
theorem k338 : Mx.laws_toToken.k M := rfl
theorem k127 : Mx.impl_QuoteText.k M := rfl
theorem k128 : Mx.impl_Decimal.k M := rfl
theorem k38 : Mx.impl_TokenText.k M := ⟨rfl, k127, k128⟩
theorem k353 : Mx.laws_FnExactTokenText.k M := ⟨rfl, k38, k328, k337, k338⟩

theorem own : ownKnob Try.prog.godebug = none := by kernel_rfl
set_option maxRecDepth 100000 in
theorem lifted (os : Os) (started : os.Started) (H : Type) (enc : TypeId × Value → H) :
    ReturnsInHanded {} Try.checked os 6 .any (Rows.fnExactTokenTextSpec.pre6 enc Try.prog Try.f6 Rows.fnExactTokenTextRow.domain false) (Rows.fnExactTokenTextSpec.post enc Try.prog Try.f6 false true false false) := by
  refine Mx.lift_row (C := Try.checked) (F := F) (M := M) (fn := Try.f6) (rt := 4) table 353 60 [.struct [.int .i64, .str]] own started (by kernel_rfl) Try.func6
    (ChangeSpec.witness6 (enc := enc) (C := Try.checked) false ⟨#[], #[.agg #[.int .i64 1, .string ByteArray.empty]], []⟩ 12 (by kernel_rfl) (by kernel_rfl) (by kernel_rfl) (by kernel_rfl))
    (by kernel_rfl) (by kernel_rfl) (by rfl) (by kernel_rfl) rfl (fun ds h => ?_) (fun xs h => ?_)
  · match ds, h with
    | [d0], _ => rfl
  · have k := k353
    exact Mx.laws_FnExactTokenText.row k h
theorem over : Rows.fnExactTokenTextRow.holds Try.pinned (OpenSpec.ofChange Rows.fnExactTokenTextSpec) :=
  OpenClaim.holds_of_wide 6 Try.f6 rfl rfl rfl rfl rfl rfl rfl ⟨rfl, rfl, rfl, rfl, rfl⟩ rfl rfl rfl rfl rfl (by kernel_rfl) Try.func6 (by kernel_rfl)
    (of_decide_eq_true (by kernel_rfl)) (by unfold Func.isWrapper; first | (rw [if_pos (by decide +kernel)]; kernel_rfl) | (rw [if_neg (by decide +kernel)]; exact ⟨rfl, rfl⟩))
    (fun os started H enc _ => lifted os started H enc)
theorem proved : Rows.FnExactTokenTextSaid := over
#print axioms proved
end Go.Proofs.Yteeddgnjannecaa.fnExactTokenText

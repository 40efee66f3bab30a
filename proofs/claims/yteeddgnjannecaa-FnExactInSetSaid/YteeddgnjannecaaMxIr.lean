/-
  PROVED: at every input FnExactInSet returns true, and its arguments read as they did. No condition.
-/
import Derived.Test.YteeddgnjannecaaRows
import Derived.Test.YteeddgnjannecaaMxI
import Derived.Test.YteeddgnjannecaaMxB
namespace Go.Proofs.Yteeddgnjannecaa.fnExactInSet
open Go.ChangeShapes Go.WideShapes Go.ChangeAt Go.RowKit
set_option linter.unusedVariables false
def F : Nat → FuncId := fun f => if f = 349 then 5 else if f = 333 then 17 else if f = 334 then 19 else if f = 346 then 38 else if f = 327 then 18 else if f = 335 then 20 else if f = 101 then 39 else if f = 336 then 21 else if f = 347 then 40 else 0
theorem ok349 : Mx.okFunc Try.prog F 349 Mx.laws_FnExactInSet.m = true := by kernel_rfl
theorem ok333 : Mx.okFunc Try.prog F 333 Mx.laws_szRangeS.m = true := by kernel_rfl
theorem ok334 : Mx.okFunc Try.prog F 334 Mx.laws_toRangeS.m = true := by kernel_rfl
theorem ok346 : Mx.okFunc Try.prog F 346 Mx.laws_toRange.m = true := by kernel_rfl
theorem ok327 : Mx.okFunc Try.prog F 327 Mx.spec_InSet.m = true := by kernel_rfl
theorem ok335 : Mx.okFunc Try.prog F 335 Mx.impl_InSet.m = true := by kernel_rfl
theorem ok101 : Mx.okFunc Try.prog F 101 Mx.impl_within.m = true := by kernel_rfl
theorem ok336 : Mx.okFunc Try.prog F 336 Mx.laws_eqRangeS.m = true := by kernel_rfl
theorem ok347 : Mx.okFunc Try.prog F 347 Mx.laws_eqRange.m = true := by kernel_rfl
theorem table : Mx.TableOk Try.prog F Mx.M := by
  intro f
  unfold Mx.M
  by_cases h349 : f = 349
  · subst h349; exact ok349
  by_cases h333 : f = 333
  · subst h333; exact ok333
  by_cases h334 : f = 334
  · subst h334; exact ok334
  by_cases h346 : f = 346
  · subst h346; exact ok346
  by_cases h327 : f = 327
  · subst h327; exact ok327
  by_cases h335 : f = 335
  · subst h335; exact ok335
  by_cases h101 : f = 101
  · subst h101; exact ok101
  by_cases h336 : f = 336
  · subst h336; exact ok336
  by_cases h347 : f = 347
  · subst h347; exact ok347
  simp [h349, h333, h334, h346, h327, h335, h101, h336, h347]

theorem own : ownKnob Try.prog.godebug = none := by kernel_rfl
set_option maxRecDepth 100000 in
theorem lifted (os : Os) (started : os.Started) (H : Type) (enc : TypeId × Value → H) :
    ReturnsInHanded {} Try.checked os 5 .any (Rows.fnExactInSetSpec.pre6 enc Try.prog Try.f5 Rows.fnExactInSetRow.domain false) (Rows.fnExactInSetSpec.post enc Try.prog Try.f5 false true false false) := by
  refine Mx.lift_row (C := Try.checked) (F := F) (M := Mx.M) (fn := Try.f5) (rt := 4) table 349 40 [.cell (.sl [.int .i64, .int .i64]), .cell (.int .i64), .cell (.int .i64)] own started (by kernel_rfl) Try.func5
    (ChangeSpec.witness6 (enc := enc) (C := Try.checked) false ⟨#[], #[.slice none 0 0, .int .i64 1, .int .i64 1], []⟩ 8 (by kernel_rfl) (by kernel_rfl) (by kernel_rfl) (by kernel_rfl))
    (by kernel_rfl) (by kernel_rfl) (by rfl) (by kernel_rfl) rfl (fun ds h => ?_) (fun xs h => ?_)
  · match ds, h with
    | [d0, d1, d2], _ => rfl
  · obtain ⟨l, n, last, hl, rfl⟩ := Mx.in_args h
    exact Mx.law_run l n last hl
theorem over : Rows.fnExactInSetRow.holds Try.pinned (OpenSpec.ofChange Rows.fnExactInSetSpec) :=
  OpenClaim.holds_of_wide 5 Try.f5 rfl rfl rfl rfl rfl rfl rfl ⟨rfl, rfl, rfl, rfl, rfl⟩ rfl rfl rfl rfl rfl (by kernel_rfl) Try.func5 (by kernel_rfl)
    (of_decide_eq_true (by kernel_rfl)) (by unfold Func.isWrapper; first | (rw [if_pos (by decide +kernel)]; kernel_rfl) | (rw [if_neg (by decide +kernel)]; exact ⟨rfl, rfl⟩))
    (fun os started H enc _ => lifted os started H enc)
theorem proved : Rows.FnExactInSetSaid := over
#print axioms proved
end Go.Proofs.Yteeddgnjannecaa.fnExactInSet

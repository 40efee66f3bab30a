/-
  PROVED: at every input FnExactSessionNew returns true, and its arguments read as they did. No condition.
-/
import Derived.Test.YteeddgnjannecaaRows
import Derived.Test.YteeddgnjannecaaMxS
namespace Go.Proofs.Yteeddgnjannecaa.fnExactSessionNew
open Go.ChangeShapes Go.WideShapes Go.ChangeAt Go.RowKit
set_option linter.unusedVariables false
def num : List (Nat × Nat) := [(284, 12), (97, 13), (45, 34), (330, 14), (46, 36), (331, 15), (47, 37), (332, 16), (352, 4)]
def tab : List (Nat × Mx.Fn) := [(284, Mx.spec_SessionNew.m), (97, Mx.impl_SessionNew.m), (45, Mx.laws_eqIntS.m), (330, Mx.laws_eqSession.m), (46, Mx.laws_markIntS.m), (331, Mx.laws_markSession.m), (47, Mx.laws_heldIntS.m), (332, Mx.laws_heldSession.m), (352, Mx.laws_FnExactSessionNew.m)]
def F : Nat → FuncId := Mx.tabF num
def M : Nat → Option Mx.Body := Mx.tabM tab
theorem ok284 : Mx.okFunc Try.prog F 284 Mx.spec_SessionNew.m = true := by kernel_rfl
theorem ok97 : Mx.okFunc Try.prog F 97 Mx.impl_SessionNew.m = true := by kernel_rfl
theorem ok45 : Mx.okFunc Try.prog F 45 Mx.laws_eqIntS.m = true := by kernel_rfl
theorem ok330 : Mx.okFunc Try.prog F 330 Mx.laws_eqSession.m = true := by kernel_rfl
theorem ok46 : Mx.okFunc Try.prog F 46 Mx.laws_markIntS.m = true := by kernel_rfl
theorem ok331 : Mx.okFunc Try.prog F 331 Mx.laws_markSession.m = true := by kernel_rfl
theorem ok47 : Mx.okFunc Try.prog F 47 Mx.laws_heldIntS.m = true := by kernel_rfl
theorem ok332 : Mx.okFunc Try.prog F 332 Mx.laws_heldSession.m = true := by kernel_rfl
theorem ok352 : Mx.okFunc Try.prog F 352 Mx.laws_FnExactSessionNew.m = true := by kernel_rfl
theorem table : Mx.TableOk Try.prog F M := by
  refine Mx.table_list ?_
  · simp only [tab, List.forall_mem_cons]
    exact ⟨ok284, ok97, ok45, ok330, ok46, ok331, ok47, ok332, ok352, by simp⟩
theorem k284 : Mx.spec_SessionNew.k M := rfl
theorem k97 : Mx.impl_SessionNew.k M := rfl
theorem k45 : Mx.laws_eqIntS.k M := rfl
theorem k330 : Mx.laws_eqSession.k M := ⟨rfl, k45⟩
theorem k46 : Mx.laws_markIntS.k M := rfl
theorem k331 : Mx.laws_markSession.k M := ⟨rfl, k46⟩
theorem k47 : Mx.laws_heldIntS.k M := rfl
theorem k332 : Mx.laws_heldSession.k M := ⟨rfl, k47⟩
theorem k352 : Mx.laws_FnExactSessionNew.k M := ⟨rfl, k97, k284, k330, k331, k332⟩

theorem own : ownKnob Try.prog.godebug = none := by kernel_rfl
set_option maxRecDepth 100000 in
theorem lifted (os : Os) (started : os.Started) (H : Type) (enc : TypeId × Value → H) :
    ReturnsInHanded {} Try.checked os 4 .any (Rows.fnExactSessionNewSpec.pre6 enc Try.prog Try.f4 Rows.fnExactSessionNewRow.domain false) (Rows.fnExactSessionNewSpec.post enc Try.prog Try.f4 false true false false) := by
  refine Mx.lift_row (C := Try.checked) (F := F) (M := M) (fn := Try.f4) (rt := 4) table 352 60 [] own started (by kernel_rfl) Try.func4
    (ChangeSpec.witness6 (enc := enc) (C := Try.checked) false ⟨#[], #[], []⟩ 12 (by kernel_rfl) (by kernel_rfl) (by kernel_rfl) (by kernel_rfl))
    (by kernel_rfl) (by kernel_rfl) (by rfl) (by kernel_rfl) rfl (fun ds h => ?_) (fun xs h => ?_)
  · match ds, h with
    | [], _ => rfl
  · have k := k352
    exact Mx.laws_FnExactSessionNew.row k h
theorem over : Rows.fnExactSessionNewRow.holds Try.pinned (OpenSpec.ofChange Rows.fnExactSessionNewSpec) :=
  OpenClaim.holds_of_wide 4 Try.f4 rfl rfl rfl rfl rfl rfl rfl ⟨rfl, rfl, rfl, rfl, rfl⟩ rfl rfl rfl rfl rfl (by kernel_rfl) Try.func4 (by kernel_rfl)
    (of_decide_eq_true (by kernel_rfl)) (by unfold Func.isWrapper; first | (rw [if_pos (by decide +kernel)]; kernel_rfl) | (rw [if_neg (by decide +kernel)]; exact ⟨rfl, rfl⟩))
    (fun os started H enc _ => lifted os started H enc)
theorem proved : Rows.FnExactSessionNewSaid := over
#print axioms proved
end Go.Proofs.Yteeddgnjannecaa.fnExactSessionNew

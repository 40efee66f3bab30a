/-
  PROVED: at every input FnExactFeedSession returns true, and its arguments read as they did. No condition.
-/
import Derived.Test.YteeddgnjannecaaRows
import Derived.Test.YteeddgnjannecaaMxS
namespace Go.Proofs.Yteeddgnjannecaa.fnExactFeedSession
open Go.ChangeShapes Go.WideShapes Go.ChangeAt Go.RowKit
set_option linter.unusedVariables false
def num : List (Nat × Nat) := [(45, 34), (330, 14), (46, 36), (331, 15), (47, 37), (332, 16), (108, 45), (340, 28), (195, 46), (342, 29), (42, 47), (341, 30), (134, 51), (190, 48), (343, 31), (355, 8)]
def tab : List (Nat × Mx.Fn) := [(45, Mx.laws_eqIntS.m), (330, Mx.laws_eqSession.m), (46, Mx.laws_markIntS.m), (331, Mx.laws_markSession.m), (47, Mx.laws_heldIntS.m), (332, Mx.laws_heldSession.m), (108, Mx.laws_szIntS.m), (340, Mx.laws_szSession.m), (195, Mx.spec_l15Copy.m), (342, Mx.spec_FeedSession.m), (42, Mx.laws_toIntS.m), (341, Mx.laws_toSession.m), (134, Mx.impl_copyInts.m), (190, Mx.impl_copySession.m), (343, Mx.impl_FeedSession.m), (355, Mx.laws_FnExactFeedSession.m)]
def F : Nat → FuncId := Mx.tabF num
def M : Nat → Option Mx.Body := Mx.tabM tab
theorem ok45 : Mx.okFunc Try.prog F 45 Mx.laws_eqIntS.m = true := by kernel_rfl
theorem ok330 : Mx.okFunc Try.prog F 330 Mx.laws_eqSession.m = true := by kernel_rfl
theorem ok46 : Mx.okFunc Try.prog F 46 Mx.laws_markIntS.m = true := by kernel_rfl
theorem ok331 : Mx.okFunc Try.prog F 331 Mx.laws_markSession.m = true := by kernel_rfl
theorem ok47 : Mx.okFunc Try.prog F 47 Mx.laws_heldIntS.m = true := by kernel_rfl
theorem ok332 : Mx.okFunc Try.prog F 332 Mx.laws_heldSession.m = true := by kernel_rfl
theorem ok108 : Mx.okFunc Try.prog F 108 Mx.laws_szIntS.m = true := by kernel_rfl
theorem ok340 : Mx.okFunc Try.prog F 340 Mx.laws_szSession.m = true := by kernel_rfl
theorem ok195 : Mx.okFunc Try.prog F 195 Mx.spec_l15Copy.m = true := by kernel_rfl
theorem ok342 : Mx.okFunc Try.prog F 342 Mx.spec_FeedSession.m = true := by kernel_rfl
theorem ok42 : Mx.okFunc Try.prog F 42 Mx.laws_toIntS.m = true := by kernel_rfl
theorem ok341 : Mx.okFunc Try.prog F 341 Mx.laws_toSession.m = true := by kernel_rfl
theorem ok134 : Mx.okFunc Try.prog F 134 Mx.impl_copyInts.m = true := by kernel_rfl
theorem ok190 : Mx.okFunc Try.prog F 190 Mx.impl_copySession.m = true := by kernel_rfl
theorem ok343 : Mx.okFunc Try.prog F 343 Mx.impl_FeedSession.m = true := by kernel_rfl
theorem ok355 : Mx.okFunc Try.prog F 355 Mx.laws_FnExactFeedSession.m = true := by kernel_rfl
theorem table : Mx.TableOk Try.prog F M := by
  refine Mx.table_list ?_
  · simp only [tab, List.forall_mem_cons]
    exact ⟨ok45, ok330, ok46, ok331, ok47, ok332, ok108, ok340, ok195, ok342, ok42, ok341, ok134, ok190, ok343, ok355, by simp⟩
theorem k45 : Mx.laws_eqIntS.k M := rfl
theorem k330 : Mx.laws_eqSession.k M := ⟨rfl, k45⟩
theorem k46 : Mx.laws_markIntS.k M := rfl
theorem k331 : Mx.laws_markSession.k M := ⟨rfl, k46⟩
theorem k47 : Mx.laws_heldIntS.k M := rfl
theorem k332 : Mx.laws_heldSession.k M := ⟨rfl, k47⟩
theorem k108 : Mx.laws_szIntS.k M := rfl
theorem k340 : Mx.laws_szSession.k M := ⟨rfl, k108⟩
theorem k195 : Mx.spec_l15Copy.k M := rfl
theorem k342 : Mx.spec_FeedSession.k M := ⟨rfl, k195⟩
theorem k42 : Mx.laws_toIntS.k M := rfl
theorem k341 : Mx.laws_toSession.k M := ⟨rfl, k42⟩
theorem k134 : Mx.impl_copyInts.k M := rfl
theorem k190 : Mx.impl_copySession.k M := ⟨rfl, k134⟩
theorem k343 : Mx.impl_FeedSession.k M := ⟨rfl, k190⟩
theorem k355 : Mx.laws_FnExactFeedSession.k M := ⟨rfl, k330, k331, k332, k340, k341, k342, k343⟩

theorem own : ownKnob Try.prog.godebug = none := by kernel_rfl
set_option maxRecDepth 100000 in
theorem lifted (os : Os) (started : os.Started) (H : Type) (enc : TypeId × Value → H) :
    ReturnsInHanded {} Try.checked os 8 .any (Rows.fnExactFeedSessionSpec.pre6 enc Try.prog Try.f8 Rows.fnExactFeedSessionRow.domain false) (Rows.fnExactFeedSessionSpec.post enc Try.prog Try.f8 false true false false) := by
  refine Mx.lift_row (C := Try.checked) (F := F) (M := M) (fn := Try.f8) (rt := 4) table 355 60 [.struct [.str, .str, .bool, .bool, .int .i64, .sl [.int .i64]], .cell .str] own started (by kernel_rfl) Try.func8
    (ChangeSpec.witness6 (enc := enc) (C := Try.checked) false ⟨#[], #[.agg #[.string ByteArray.empty, .string ByteArray.empty, .bool false, .bool false, .int .i64 0, .slice none 0 0], .string ByteArray.empty], []⟩ 12 (by kernel_rfl) (by kernel_rfl) (by kernel_rfl) (by kernel_rfl))
    (by kernel_rfl) (by kernel_rfl) (by rfl) (by kernel_rfl) rfl (fun ds h => ?_) (fun xs h => ?_)
  · match ds, h with
    | [d0, d1], _ => rfl
  · have k := k355
    exact Mx.laws_FnExactFeedSession.row k h
theorem over : Rows.fnExactFeedSessionRow.holds Try.pinned (OpenSpec.ofChange Rows.fnExactFeedSessionSpec) :=
  OpenClaim.holds_of_wide 8 Try.f8 rfl rfl rfl rfl rfl rfl rfl ⟨rfl, rfl, rfl, rfl, rfl⟩ rfl rfl rfl rfl rfl (by kernel_rfl) Try.func8 (by kernel_rfl)
    (of_decide_eq_true (by kernel_rfl)) (by unfold Func.isWrapper; first | (rw [if_pos (by decide +kernel)]; kernel_rfl) | (rw [if_neg (by decide +kernel)]; exact ⟨rfl, rfl⟩))
    (fun os started H enc _ => lifted os started H enc)
theorem proved : Rows.FnExactFeedSessionSaid := over
#print axioms proved
end Go.Proofs.Yteeddgnjannecaa.fnExactFeedSession

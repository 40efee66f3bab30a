/-
  PROVED: at every input FnExactAtomOk returns true, and its arguments read as they did. No condition.
-/
import Derived.Test.YteeddgnjannecaaRows
import Derived.Shelf.Strings.Runes
import Derived.Test.YteeddgnjannecaaMxX
namespace Go.Proofs.Yteeddgnjannecaa.fnExactAtomOk
open Go.ChangeShapes Go.WideShapes Go.ChangeAt Go.RowKit
set_option linter.unusedVariables false
def num : List (Nat × Nat) := [(98, 43), (325, 26), (101, 39), (256, 44), (339, 27), (354, 7), (290, 50)]
def tab : List (Nat × Mx.Fn) := [(98, Mx.spec_l01In.m), (325, Mx.spec_AtomOk.m), (101, Mx.impl_within.m), (256, Mx.impl_isAtom.m), (339, Mx.impl_AtomOk.m), (354, Mx.laws_FnExactAtomOk.m)]
def F : Nat → FuncId := Mx.tabF num
def exts : List (Nat × (List Mx.T → Option Mx.T)) := [(290, Mx.strings_ContainsRune.g)]
def M : Nat → Option Mx.Body := Mx.tabX tab exts
/-- the numbers of the library's functions and types here -/
def rho : Go.Shelf.Ren := { f := fun n => if n = 119 then 54 else if n = 137 then 53 else if n = 151 then 50 else if n = 152 then 52 else if n = 217 then 57 else if n = 224 then 55 else if n = 225 then 56 else if n = 266 then 58 else n, t := fun n => if n = 46 then 74 else n, g := fun n => n }
theorem lays : Go.Proofs.Lays.n151 Try.prog rho where
  mixed := by kernel_rfl
  f119 := Try.func54.trans (congrArg some (by kernel_rfl))
  f137 := Try.func53.trans (congrArg some (by kernel_rfl))
  f151 := Try.func50.trans (congrArg some (by kernel_rfl))
  f152 := Try.func52.trans (congrArg some (by kernel_rfl))
  f217 := Try.func57.trans (congrArg some (by kernel_rfl))
  f224 := Try.func55.trans (congrArg some (by kernel_rfl))
  f225 := Try.func56.trans (congrArg some (by kernel_rfl))
  f266 := Try.func58.trans (congrArg some (by kernel_rfl))
  t0 := by kernel_rfl
  a0 := fun w => by kernel_rfl
  z0 := fun w => by kernel_rfl
  v0 := fun w => by kernel_rfl
  t3 := by kernel_rfl
  a3 := fun w => by kernel_rfl
  z3 := fun w => by kernel_rfl
  v3 := fun w => by kernel_rfl
  t4 := by kernel_rfl
  a4 := fun w => by kernel_rfl
  z4 := fun w => by kernel_rfl
  v4 := fun w => by kernel_rfl
  t5 := by kernel_rfl
  a5 := fun w => by kernel_rfl
  z5 := fun w => by kernel_rfl
  v5 := fun w => by kernel_rfl
  t9 := by kernel_rfl
  a9 := fun w => by kernel_rfl
  z9 := fun w => by kernel_rfl
  v9 := fun w => by kernel_rfl
  t21 := by kernel_rfl
  a21 := fun w => by kernel_rfl
  z21 := fun w => by kernel_rfl
  v21 := fun w => by kernel_rfl
  t46 := by kernel_rfl
  a46 := fun w => by kernel_rfl
  z46 := fun w => by kernel_rfl
  v46 := fun w => by kernel_rfl
theorem ext290 : Mx.ExtOk Try.prog F 290 (Mx.extG Mx.strings_ContainsRune.g) := by
  refine Mx.ext_plain (by kernel_rfl) fun ts r h => ?_
  unfold Mx.strings_ContainsRune.g at h
  split at h
  · rename_i s r'
    split at h
    · rename_i hr
      cases h
      exact ⟨[.string s, .int .i32 r'], _, rfl, rfl, fun w => Go.Proofs.Any.strings_ContainsRune_ascii lays s r' w hr.1 hr.2⟩
    · cases h
  · cases h
theorem ok98 : Mx.okFunc Try.prog F 98 Mx.spec_l01In.m = true := by kernel_rfl
theorem ok325 : Mx.okFunc Try.prog F 325 Mx.spec_AtomOk.m = true := by kernel_rfl
theorem ok101 : Mx.okFunc Try.prog F 101 Mx.impl_within.m = true := by kernel_rfl
theorem ok256 : Mx.okFunc Try.prog F 256 Mx.impl_isAtom.m = true := by kernel_rfl
theorem ok339 : Mx.okFunc Try.prog F 339 Mx.impl_AtomOk.m = true := by kernel_rfl
theorem ok354 : Mx.okFunc Try.prog F 354 Mx.laws_FnExactAtomOk.m = true := by kernel_rfl
theorem table : Mx.TableOk Try.prog F M := by
  refine Mx.table_ext ?_ ?_
  · simp only [tab, List.forall_mem_cons]
    exact ⟨ok98, ok325, ok101, ok256, ok339, ok354, by simp⟩
  · simp only [exts, List.forall_mem_cons]
    exact ⟨ext290, by simp⟩
theorem k98 : Mx.spec_l01In.k M := rfl
theorem k325 : Mx.spec_AtomOk.k M := ⟨rfl, k98⟩
theorem k101 : Mx.impl_within.k M := rfl
theorem k256 : Mx.impl_isAtom.k M := ⟨rfl, rfl⟩
theorem k339 : Mx.impl_AtomOk.k M := ⟨rfl, k101, k256⟩
theorem k354 : Mx.laws_FnExactAtomOk.k M := ⟨rfl, k325, k339⟩

theorem own : ownKnob Try.prog.godebug = none := by kernel_rfl
set_option maxRecDepth 100000 in
theorem lifted (os : Os) (started : os.Started) (H : Type) (enc : TypeId × Value → H) :
    ReturnsInHanded {} Try.checked os 7 .any (Rows.fnExactAtomOkSpec.pre6 enc Try.prog Try.f7 Rows.fnExactAtomOkRow.domain false) (Rows.fnExactAtomOkSpec.post enc Try.prog Try.f7 false true false false) := by
  refine Mx.lift_row (C := Try.checked) (F := F) (M := M) (fn := Try.f7) (rt := 4) table 354 60 [.cell .str] own started (by kernel_rfl) Try.func7
    (ChangeSpec.witness6 (enc := enc) (C := Try.checked) false ⟨#[], #[.string ByteArray.empty], []⟩ 12 (by kernel_rfl) (by kernel_rfl) (by kernel_rfl) (by kernel_rfl))
    (by kernel_rfl) (by kernel_rfl) (by rfl) (by kernel_rfl) rfl (fun ds h => ?_) (fun xs h => ?_)
  · match ds, h with
    | [d0], _ => rfl
  · have k := k354
    exact Mx.laws_FnExactAtomOk.row k h
theorem over : Rows.fnExactAtomOkRow.holds Try.pinned (OpenSpec.ofChange Rows.fnExactAtomOkSpec) :=
  OpenClaim.holds_of_wide 7 Try.f7 rfl rfl rfl rfl rfl rfl rfl ⟨rfl, rfl, rfl, rfl, rfl⟩ rfl rfl rfl rfl rfl (by kernel_rfl) Try.func7 (by kernel_rfl)
    (of_decide_eq_true (by kernel_rfl)) (by unfold Func.isWrapper; first | (rw [if_pos (by decide +kernel)]; kernel_rfl) | (rw [if_neg (by decide +kernel)]; exact ⟨rfl, rfl⟩))
    (fun os started H enc _ => lifted os started H enc)
theorem proved : Rows.FnExactAtomOkSaid := over
#print axioms proved
end Go.Proofs.Yteeddgnjannecaa.fnExactAtomOk

/-
  PROVED: at every input FnExactKeptNew returns true, and its arguments read as they did. No condition.
-/
import Derived.Test.YtddgjibndegbaaaRows
import Derived.Test.YtddgjibndegbaaaMxKn
namespace Go.Proofs.Ytddgjibndegbaaa.fnExactKeptNew
open Go.ChangeShapes Go.WideShapes Go.ChangeAt Go.RowKit
set_option linter.unusedVariables false
def num : List (Nat × Nat) := [(113, 88), (24, 41), (114, 89), (25, 42), (45, 38), (111, 70), (289, 171), (252, 144), (210, 114), (112, 71), (21, 25), (121, 78), (33, 32), (26, 43), (46, 39), (106, 63), (224, 180), (144, 160), (171, 129), (77, 90), (27, 44), (47, 40), (225, 181), (145, 161), (172, 130), (78, 91), (28, 45), (370, 10)]
def tab : List (Nat × Mx.Fn) := [(113, Mx.spec_StoreNew.m), (24, Mx.spec_KeptNew.m), (114, Mx.impl_StoreNew.m), (25, Mx.impl_KeptNew.m), (45, Mx.laws_eqIntS.m), (111, Mx.laws_eqStamp.m), (289, Mx.laws_eqReg.m), (252, Mx.laws_eqRegS.m), (210, Mx.laws_eqMail.m), (112, Mx.laws_eqMailS.m), (21, Mx.laws_eqBox.m), (121, Mx.laws_eqBoxS.m), (33, Mx.laws_eqStore.m), (26, Mx.laws_eqKept.m), (46, Mx.laws_markIntS.m), (106, Mx.laws_markText.m), (224, Mx.laws_markRegS.m), (144, Mx.laws_markMailS.m), (171, Mx.laws_markBoxS.m), (77, Mx.laws_markStore.m), (27, Mx.laws_markKept.m), (47, Mx.laws_heldIntS.m), (225, Mx.laws_heldRegS.m), (145, Mx.laws_heldMailS.m), (172, Mx.laws_heldBoxS.m), (78, Mx.laws_heldStore.m), (28, Mx.laws_heldKept.m), (370, Mx.laws_FnExactKeptNew.m)]
def F : Nat → FuncId := Mx.tabF num
def M : Nat → Option Mx.Body := Mx.tabM tab
theorem ok113 : Mx.okFunc Try.prog F 113 Mx.spec_StoreNew.m = true := by kernel_rfl
theorem ok24 : Mx.okFunc Try.prog F 24 Mx.spec_KeptNew.m = true := by kernel_rfl
theorem ok114 : Mx.okFunc Try.prog F 114 Mx.impl_StoreNew.m = true := by kernel_rfl
theorem ok25 : Mx.okFunc Try.prog F 25 Mx.impl_KeptNew.m = true := by kernel_rfl
theorem ok45 : Mx.okFunc Try.prog F 45 Mx.laws_eqIntS.m = true := by kernel_rfl
theorem ok111 : Mx.okFunc Try.prog F 111 Mx.laws_eqStamp.m = true := by kernel_rfl
theorem ok289 : Mx.okFunc Try.prog F 289 Mx.laws_eqReg.m = true := by kernel_rfl
theorem ok252 : Mx.okFunc Try.prog F 252 Mx.laws_eqRegS.m = true := by kernel_rfl
theorem ok210 : Mx.okFunc Try.prog F 210 Mx.laws_eqMail.m = true := by kernel_rfl
theorem ok112 : Mx.okFunc Try.prog F 112 Mx.laws_eqMailS.m = true := by kernel_rfl
theorem ok21 : Mx.okFunc Try.prog F 21 Mx.laws_eqBox.m = true := by kernel_rfl
theorem ok121 : Mx.okFunc Try.prog F 121 Mx.laws_eqBoxS.m = true := by kernel_rfl
theorem ok33 : Mx.okFunc Try.prog F 33 Mx.laws_eqStore.m = true := by kernel_rfl
theorem ok26 : Mx.okFunc Try.prog F 26 Mx.laws_eqKept.m = true := by kernel_rfl
theorem ok46 : Mx.okFunc Try.prog F 46 Mx.laws_markIntS.m = true := by kernel_rfl
theorem ok106 : Mx.okFunc Try.prog F 106 Mx.laws_markText.m = true := by kernel_rfl
theorem ok224 : Mx.okFunc Try.prog F 224 Mx.laws_markRegS.m = true := by kernel_rfl
theorem ok144 : Mx.okFunc Try.prog F 144 Mx.laws_markMailS.m = true := by kernel_rfl
theorem ok171 : Mx.okFunc Try.prog F 171 Mx.laws_markBoxS.m = true := by kernel_rfl
theorem ok77 : Mx.okFunc Try.prog F 77 Mx.laws_markStore.m = true := by kernel_rfl
theorem ok27 : Mx.okFunc Try.prog F 27 Mx.laws_markKept.m = true := by kernel_rfl
theorem ok47 : Mx.okFunc Try.prog F 47 Mx.laws_heldIntS.m = true := by kernel_rfl
theorem ok225 : Mx.okFunc Try.prog F 225 Mx.laws_heldRegS.m = true := by kernel_rfl
theorem ok145 : Mx.okFunc Try.prog F 145 Mx.laws_heldMailS.m = true := by kernel_rfl
theorem ok172 : Mx.okFunc Try.prog F 172 Mx.laws_heldBoxS.m = true := by kernel_rfl
theorem ok78 : Mx.okFunc Try.prog F 78 Mx.laws_heldStore.m = true := by kernel_rfl
theorem ok28 : Mx.okFunc Try.prog F 28 Mx.laws_heldKept.m = true := by kernel_rfl
theorem ok370 : Mx.okFunc Try.prog F 370 Mx.laws_FnExactKeptNew.m = true := by kernel_rfl
theorem table : Mx.TableOk Try.prog F M := by
  refine Mx.table_list ?_
  · simp only [tab, List.forall_mem_cons]
    exact ⟨ok113, ok24, ok114, ok25, ok45, ok111, ok289, ok252, ok210, ok112, ok21, ok121, ok33, ok26, ok46, ok106, ok224, ok144, ok171, ok77, ok27, ok47, ok225, ok145, ok172, ok78, ok28, ok370, by simp⟩
theorem k113 : Mx.spec_StoreNew.k M := rfl
theorem k24 : Mx.spec_KeptNew.k M := ⟨rfl, k113⟩
theorem k114 : Mx.impl_StoreNew.k M := rfl
theorem k25 : Mx.impl_KeptNew.k M := ⟨rfl, k114⟩
theorem k45 : Mx.laws_eqIntS.k M := rfl
theorem k111 : Mx.laws_eqStamp.k M := rfl
theorem k289 : Mx.laws_eqReg.k M := ⟨rfl, k111⟩
theorem k252 : Mx.laws_eqRegS.k M := ⟨rfl, k289⟩
theorem k210 : Mx.laws_eqMail.k M := ⟨rfl, k252⟩
theorem k112 : Mx.laws_eqMailS.k M := ⟨rfl, k210⟩
theorem k21 : Mx.laws_eqBox.k M := ⟨rfl, k45, k111, k112⟩
theorem k121 : Mx.laws_eqBoxS.k M := ⟨rfl, k21⟩
theorem k33 : Mx.laws_eqStore.k M := ⟨rfl, k45, k121⟩
theorem k26 : Mx.laws_eqKept.k M := ⟨rfl, k33⟩
theorem k46 : Mx.laws_markIntS.k M := rfl
theorem k106 : Mx.laws_markText.k M := rfl
theorem k224 : Mx.laws_markRegS.k M := rfl
theorem k144 : Mx.laws_markMailS.k M := ⟨rfl, k106, k224⟩
theorem k171 : Mx.laws_markBoxS.k M := ⟨rfl, k46, k106, k144⟩
theorem k77 : Mx.laws_markStore.k M := ⟨rfl, k46, k171⟩
theorem k27 : Mx.laws_markKept.k M := ⟨rfl, k77⟩
theorem k47 : Mx.laws_heldIntS.k M := rfl
theorem k225 : Mx.laws_heldRegS.k M := rfl
theorem k145 : Mx.laws_heldMailS.k M := ⟨rfl, k106, k225⟩
theorem k172 : Mx.laws_heldBoxS.k M := ⟨rfl, k47, k106, k145⟩
theorem k78 : Mx.laws_heldStore.k M := ⟨rfl, k47, k172⟩
theorem k28 : Mx.laws_heldKept.k M := ⟨rfl, k78⟩
theorem k370 : Mx.laws_FnExactKeptNew.k M := ⟨rfl, k24, k25, k26, k27, k28⟩

theorem own : ownKnob Try.prog.godebug = none := by kernel_rfl
set_option maxRecDepth 100000 in
theorem lifted (os : Os) (started : os.Started) (H : Type) (enc : TypeId × Value → H) :
    ReturnsInHanded {} Try.checked os 10 .any (Rows.fnExactKeptNewSpec.pre6 enc Try.prog Try.f10 Rows.fnExactKeptNewRow.domain false) (Rows.fnExactKeptNewSpec.post enc Try.prog Try.f10 false true false false) := by
  refine Mx.lift_row (C := Try.checked) (F := F) (M := M) (fn := Try.f10) (rt := 4) table 370 60 [.cell (.int .i64)] own started (by kernel_rfl) Try.func10
    (ChangeSpec.witness6 (enc := enc) (C := Try.checked) false ⟨#[], #[.int .i64 1], []⟩ 12 (by kernel_rfl) (by kernel_rfl) (by kernel_rfl) (by kernel_rfl))
    (by kernel_rfl) (by kernel_rfl) (by rfl) (by kernel_rfl) rfl (fun ds h => ?_) (fun xs h => ?_)
  · match ds, h with
    | [d0], _ => rfl
  · have k := k370
    exact Mx.laws_FnExactKeptNew.row k h
theorem over : Rows.fnExactKeptNewRow.holds Try.pinned (OpenSpec.ofChange Rows.fnExactKeptNewSpec) :=
  OpenClaim.holds_of_wide 10 Try.f10 rfl rfl rfl rfl rfl rfl rfl ⟨rfl, rfl, rfl, rfl, rfl⟩ rfl rfl rfl rfl rfl (by kernel_rfl) Try.func10 (by kernel_rfl)
    (of_decide_eq_true (by kernel_rfl)) (by unfold Func.isWrapper; first | (rw [if_pos (by decide +kernel)]; kernel_rfl) | (rw [if_neg (by decide +kernel)]; exact ⟨rfl, rfl⟩))
    (fun os started H enc _ => lifted os started H enc)
theorem proved : Rows.FnExactKeptNewSaid := over
#print axioms proved
end Go.Proofs.Ytddgjibndegbaaa.fnExactKeptNew

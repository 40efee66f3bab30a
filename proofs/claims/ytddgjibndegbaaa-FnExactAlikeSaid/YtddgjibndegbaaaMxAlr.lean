/-
  PROVED: at every input FnExactAlike returns true, and its arguments read as they did. No condition.
-/
import Derived.Test.YtddgjibndegbaaaRows
import Derived.Test.YtddgjibndegbaaaMxAl
namespace Go.Proofs.Ytddgjibndegbaaa.fnExactAlike
open Go.ChangeShapes Go.WideShapes Go.ChangeAt Go.RowKit
set_option linter.unusedVariables false
def num : List (Nat × Nat) := [(108, 65), (250, 142), (208, 110), (107, 64), (17, 21), (115, 72), (29, 28), (159, 115), (116, 73), (31, 29), (42, 36), (109, 67), (288, 170), (251, 143), (209, 111), (110, 68), (18, 23), (117, 74), (30, 30), (118, 75), (120, 77), (211, 116), (253, 145), (212, 117), (119, 76), (32, 31), (45, 38), (111, 70), (289, 171), (252, 144), (210, 114), (112, 71), (21, 25), (121, 78), (33, 32), (367, 7)]
def tab : List (Nat × Mx.Fn) := [(108, Mx.laws_szIntS.m), (250, Mx.laws_szRegS.m), (208, Mx.laws_szMail.m), (107, Mx.laws_szMailS.m), (17, Mx.laws_szBox.m), (115, Mx.laws_szBoxS.m), (29, Mx.laws_szStore.m), (159, Mx.spec_SameMail.m), (116, Mx.spec_l09Box.m), (31, Mx.spec_Alike.m), (42, Mx.laws_toIntS.m), (109, Mx.laws_toStamp.m), (288, Mx.laws_toReg.m), (251, Mx.laws_toRegS.m), (209, Mx.laws_toMail.m), (110, Mx.laws_toMailS.m), (18, Mx.laws_toBox.m), (117, Mx.laws_toBoxS.m), (30, Mx.laws_toStore.m), (118, Mx.slices_EqualFunc_impl_Box_impl_Box_impl_Box_impl_Box.m), (120, Mx.slices_Equal_int_int.m), (211, Mx.slices_EqualFunc_impl_Mail_impl_Mail_impl_Mail_impl_Mail.m), (253, Mx.slices_Equal_impl_Reg_impl_Reg.m), (212, Mx.impl_SameMail.m), (119, Mx.impl_sameBox.m), (32, Mx.impl_Alike.m), (45, Mx.laws_eqIntS.m), (111, Mx.laws_eqStamp.m), (289, Mx.laws_eqReg.m), (252, Mx.laws_eqRegS.m), (210, Mx.laws_eqMail.m), (112, Mx.laws_eqMailS.m), (21, Mx.laws_eqBox.m), (121, Mx.laws_eqBoxS.m), (33, Mx.laws_eqStore.m), (367, Mx.laws_FnExactAlike.m)]
def F : Nat → FuncId := Mx.tabF num
def M : Nat → Option Mx.Body := Mx.tabM tab
theorem ok108 : Mx.okFunc Try.prog F 108 Mx.laws_szIntS.m = true := by kernel_rfl
theorem ok250 : Mx.okFunc Try.prog F 250 Mx.laws_szRegS.m = true := by kernel_rfl
theorem ok208 : Mx.okFunc Try.prog F 208 Mx.laws_szMail.m = true := by kernel_rfl
theorem ok107 : Mx.okFunc Try.prog F 107 Mx.laws_szMailS.m = true := by kernel_rfl
theorem ok17 : Mx.okFunc Try.prog F 17 Mx.laws_szBox.m = true := by kernel_rfl
theorem ok115 : Mx.okFunc Try.prog F 115 Mx.laws_szBoxS.m = true := by kernel_rfl
theorem ok29 : Mx.okFunc Try.prog F 29 Mx.laws_szStore.m = true := by kernel_rfl
theorem ok159 : Mx.okFunc Try.prog F 159 Mx.spec_SameMail.m = true := by kernel_rfl
theorem ok116 : Mx.okFunc Try.prog F 116 Mx.spec_l09Box.m = true := by kernel_rfl
theorem ok31 : Mx.okFunc Try.prog F 31 Mx.spec_Alike.m = true := by kernel_rfl
theorem ok42 : Mx.okFunc Try.prog F 42 Mx.laws_toIntS.m = true := by kernel_rfl
theorem ok109 : Mx.okFunc Try.prog F 109 Mx.laws_toStamp.m = true := by kernel_rfl
theorem ok288 : Mx.okFunc Try.prog F 288 Mx.laws_toReg.m = true := by kernel_rfl
theorem ok251 : Mx.okFunc Try.prog F 251 Mx.laws_toRegS.m = true := by kernel_rfl
theorem ok209 : Mx.okFunc Try.prog F 209 Mx.laws_toMail.m = true := by kernel_rfl
theorem ok110 : Mx.okFunc Try.prog F 110 Mx.laws_toMailS.m = true := by kernel_rfl
theorem ok18 : Mx.okFunc Try.prog F 18 Mx.laws_toBox.m = true := by kernel_rfl
theorem ok117 : Mx.okFunc Try.prog F 117 Mx.laws_toBoxS.m = true := by kernel_rfl
theorem ok30 : Mx.okFunc Try.prog F 30 Mx.laws_toStore.m = true := by kernel_rfl
theorem ok118 : Mx.okFunc Try.prog F 118 Mx.slices_EqualFunc_impl_Box_impl_Box_impl_Box_impl_Box.m = true := by kernel_rfl
theorem ok120 : Mx.okFunc Try.prog F 120 Mx.slices_Equal_int_int.m = true := by kernel_rfl
theorem ok211 : Mx.okFunc Try.prog F 211 Mx.slices_EqualFunc_impl_Mail_impl_Mail_impl_Mail_impl_Mail.m = true := by kernel_rfl
theorem ok253 : Mx.okFunc Try.prog F 253 Mx.slices_Equal_impl_Reg_impl_Reg.m = true := by kernel_rfl
theorem ok212 : Mx.okFunc Try.prog F 212 Mx.impl_SameMail.m = true := by kernel_rfl
theorem ok119 : Mx.okFunc Try.prog F 119 Mx.impl_sameBox.m = true := by kernel_rfl
theorem ok32 : Mx.okFunc Try.prog F 32 Mx.impl_Alike.m = true := by kernel_rfl
theorem ok45 : Mx.okFunc Try.prog F 45 Mx.laws_eqIntS.m = true := by kernel_rfl
theorem ok111 : Mx.okFunc Try.prog F 111 Mx.laws_eqStamp.m = true := by kernel_rfl
theorem ok289 : Mx.okFunc Try.prog F 289 Mx.laws_eqReg.m = true := by kernel_rfl
theorem ok252 : Mx.okFunc Try.prog F 252 Mx.laws_eqRegS.m = true := by kernel_rfl
theorem ok210 : Mx.okFunc Try.prog F 210 Mx.laws_eqMail.m = true := by kernel_rfl
theorem ok112 : Mx.okFunc Try.prog F 112 Mx.laws_eqMailS.m = true := by kernel_rfl
theorem ok21 : Mx.okFunc Try.prog F 21 Mx.laws_eqBox.m = true := by kernel_rfl
theorem ok121 : Mx.okFunc Try.prog F 121 Mx.laws_eqBoxS.m = true := by kernel_rfl
theorem ok33 : Mx.okFunc Try.prog F 33 Mx.laws_eqStore.m = true := by kernel_rfl
theorem ok367 : Mx.okFunc Try.prog F 367 Mx.laws_FnExactAlike.m = true := by kernel_rfl
theorem table : Mx.TableOk Try.prog F M := by
  refine Mx.table_list ?_
  · simp only [tab, List.forall_mem_cons]
    exact ⟨ok108, ok250, ok208, ok107, ok17, ok115, ok29, ok159, ok116, ok31, ok42, ok109, ok288, ok251, ok209, ok110, ok18, ok117, ok30, ok118, ok120, ok211, ok253, ok212, ok119, ok32, ok45, ok111, ok289, ok252, ok210, ok112, ok21, ok121, ok33, ok367, by simp⟩
theorem k108 : Mx.laws_szIntS.k M := rfl
theorem k250 : Mx.laws_szRegS.k M := rfl
theorem k208 : Mx.laws_szMail.k M := ⟨rfl, k250⟩
theorem k107 : Mx.laws_szMailS.k M := ⟨rfl, k208⟩
theorem k17 : Mx.laws_szBox.k M := ⟨rfl, k107, k108⟩
theorem k115 : Mx.laws_szBoxS.k M := ⟨rfl, k17⟩
theorem k29 : Mx.laws_szStore.k M := ⟨rfl, k108, k115⟩
theorem k159 : Mx.spec_SameMail.k M := rfl
theorem k116 : Mx.spec_l09Box.k M := ⟨rfl, k159⟩
theorem k31 : Mx.spec_Alike.k M := ⟨rfl, k116⟩
theorem k42 : Mx.laws_toIntS.k M := rfl
theorem k109 : Mx.laws_toStamp.k M := rfl
theorem k288 : Mx.laws_toReg.k M := ⟨rfl, k109⟩
theorem k251 : Mx.laws_toRegS.k M := ⟨rfl, k288⟩
theorem k209 : Mx.laws_toMail.k M := ⟨rfl, k251⟩
theorem k110 : Mx.laws_toMailS.k M := ⟨rfl, k209⟩
theorem k18 : Mx.laws_toBox.k M := ⟨rfl, k42, k109, k110⟩
theorem k117 : Mx.laws_toBoxS.k M := ⟨rfl, k18⟩
theorem k30 : Mx.laws_toStore.k M := ⟨rfl, k42, k117⟩
theorem k118 : Mx.slices_EqualFunc_impl_Box_impl_Box_impl_Box_impl_Box.k M := rfl
theorem k120 : Mx.slices_Equal_int_int.k M := rfl
theorem k211 : Mx.slices_EqualFunc_impl_Mail_impl_Mail_impl_Mail_impl_Mail.k M := rfl
theorem k253 : Mx.slices_Equal_impl_Reg_impl_Reg.k M := rfl
theorem k212 : Mx.impl_SameMail.k M := ⟨rfl, k253⟩
theorem k119 : Mx.impl_sameBox.k M := ⟨rfl, k120, k211, k212⟩
theorem k32 : Mx.impl_Alike.k M := ⟨rfl, k118, k119, k120⟩
theorem k45 : Mx.laws_eqIntS.k M := rfl
theorem k111 : Mx.laws_eqStamp.k M := rfl
theorem k289 : Mx.laws_eqReg.k M := ⟨rfl, k111⟩
theorem k252 : Mx.laws_eqRegS.k M := ⟨rfl, k289⟩
theorem k210 : Mx.laws_eqMail.k M := ⟨rfl, k252⟩
theorem k112 : Mx.laws_eqMailS.k M := ⟨rfl, k210⟩
theorem k21 : Mx.laws_eqBox.k M := ⟨rfl, k45, k111, k112⟩
theorem k121 : Mx.laws_eqBoxS.k M := ⟨rfl, k21⟩
theorem k33 : Mx.laws_eqStore.k M := ⟨rfl, k45, k121⟩
theorem k367 : Mx.laws_FnExactAlike.k M := ⟨rfl, k29, k30, k31, k32, k33⟩

theorem own : ownKnob Try.prog.godebug = none := by kernel_rfl
set_option maxRecDepth 100000 in
theorem lifted (os : Os) (started : os.Started) (H : Type) (enc : TypeId × Value → H) :
    ReturnsInHanded {} Try.checked os 7 .any (Rows.fnExactAlikeSpec.pre6 enc Try.prog Try.f7 Rows.fnExactAlikeRow.domain false) (Rows.fnExactAlikeSpec.post enc Try.prog Try.f7 false true false false) := by
  refine Mx.lift_row (C := Try.checked) (F := F) (M := M) (fn := Try.f7) (rt := 4) table 367 60 [.struct Mx.ctStore, .struct Mx.ctStore] own started (by kernel_rfl) Try.func7
    (ChangeSpec.witness6 (enc := enc) (C := Try.checked) false ⟨#[], #[.agg #[.int .i64 1, .int .i64 1, .slice none 0 0, .slice none 0 0], .agg #[.int .i64 1, .int .i64 1, .slice none 0 0, .slice none 0 0]], []⟩ 12 (by kernel_rfl) (by kernel_rfl) (by kernel_rfl) (by kernel_rfl))
    (by kernel_rfl) (by kernel_rfl) (by rfl) (by kernel_rfl) rfl (fun ds h => ?_) (fun xs h => ?_)
  · match ds, h with
    | [d0, d1], _ => rfl
  · have k := k367
    exact Mx.laws_FnExactAlike.row k h
theorem over : Rows.fnExactAlikeRow.holds Try.pinned (OpenSpec.ofChange Rows.fnExactAlikeSpec) :=
  OpenClaim.holds_of_wide 7 Try.f7 rfl rfl rfl rfl rfl rfl rfl ⟨rfl, rfl, rfl, rfl, rfl⟩ rfl rfl rfl rfl rfl (by kernel_rfl) Try.func7 (by kernel_rfl)
    (of_decide_eq_true (by kernel_rfl)) (by unfold Func.isWrapper; first | (rw [if_pos (by decide +kernel)]; kernel_rfl) | (rw [if_neg (by decide +kernel)]; exact ⟨rfl, rfl⟩))
    (fun os started H enc _ => lifted os started H enc)
theorem proved : Rows.FnExactAlikeSaid := over
#print axioms proved
end Go.Proofs.Ytddgjibndegbaaa.fnExactAlike

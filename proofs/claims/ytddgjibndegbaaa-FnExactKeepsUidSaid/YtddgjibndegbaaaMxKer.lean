/-
  PROVED: at every input FnExactKeepsUid returns true, and its arguments read as they did. No condition.
-/
import Derived.Test.YtddgjibndegbaaaRows
import Derived.Test.YtddgjibndegbaaaMxKe
namespace Go.Proofs.Ytddgjibndegbaaa.fnExactKeepsUid
open Go.ChangeShapes Go.WideShapes Go.ChangeAt Go.RowKit
set_option linter.unusedVariables false
def num : List (Nat × Nat) := [(250, 142), (208, 110), (107, 64), (108, 65), (17, 21), (42, 36), (109, 67), (288, 170), (251, 143), (209, 111), (110, 68), (18, 23), (45, 38), (111, 70), (289, 171), (252, 144), (210, 114), (112, 71), (21, 25), (91, 66), (22, 26), (161, 112), (160, 113), (72, 69), (23, 27), (366, 6)]
def tab : List (Nat × Mx.Fn) := [(250, Mx.laws_szRegS.m), (208, Mx.laws_szMail.m), (107, Mx.laws_szMailS.m), (108, Mx.laws_szIntS.m), (17, Mx.laws_szBox.m), (42, Mx.laws_toIntS.m), (109, Mx.laws_toStamp.m), (288, Mx.laws_toReg.m), (251, Mx.laws_toRegS.m), (209, Mx.laws_toMail.m), (110, Mx.laws_toMailS.m), (18, Mx.laws_toBox.m), (45, Mx.laws_eqIntS.m), (111, Mx.laws_eqStamp.m), (289, Mx.laws_eqReg.m), (252, Mx.laws_eqRegS.m), (210, Mx.laws_eqMail.m), (112, Mx.laws_eqMailS.m), (21, Mx.laws_eqBox.m), (91, Mx.spec_MailAt.m), (22, Mx.spec_KeepsUid.m), (161, Mx.slices_IndexFunc_impl_Mail_impl_Mail.m), (160, Mx.impl_MailAt_1.m), (72, Mx.impl_MailAt.m), (23, Mx.impl_KeepsUid.m), (366, Mx.laws_FnExactKeepsUid.m)]
def F : Nat → FuncId := Mx.tabF num
def M : Nat → Option Mx.Body := Mx.tabM tab
theorem ok250 : Mx.okFunc Try.prog F 250 Mx.laws_szRegS.m = true := by kernel_rfl
theorem ok208 : Mx.okFunc Try.prog F 208 Mx.laws_szMail.m = true := by kernel_rfl
theorem ok107 : Mx.okFunc Try.prog F 107 Mx.laws_szMailS.m = true := by kernel_rfl
theorem ok108 : Mx.okFunc Try.prog F 108 Mx.laws_szIntS.m = true := by kernel_rfl
theorem ok17 : Mx.okFunc Try.prog F 17 Mx.laws_szBox.m = true := by kernel_rfl
theorem ok42 : Mx.okFunc Try.prog F 42 Mx.laws_toIntS.m = true := by kernel_rfl
theorem ok109 : Mx.okFunc Try.prog F 109 Mx.laws_toStamp.m = true := by kernel_rfl
theorem ok288 : Mx.okFunc Try.prog F 288 Mx.laws_toReg.m = true := by kernel_rfl
theorem ok251 : Mx.okFunc Try.prog F 251 Mx.laws_toRegS.m = true := by kernel_rfl
theorem ok209 : Mx.okFunc Try.prog F 209 Mx.laws_toMail.m = true := by kernel_rfl
theorem ok110 : Mx.okFunc Try.prog F 110 Mx.laws_toMailS.m = true := by kernel_rfl
theorem ok18 : Mx.okFunc Try.prog F 18 Mx.laws_toBox.m = true := by kernel_rfl
theorem ok45 : Mx.okFunc Try.prog F 45 Mx.laws_eqIntS.m = true := by kernel_rfl
theorem ok111 : Mx.okFunc Try.prog F 111 Mx.laws_eqStamp.m = true := by kernel_rfl
theorem ok289 : Mx.okFunc Try.prog F 289 Mx.laws_eqReg.m = true := by kernel_rfl
theorem ok252 : Mx.okFunc Try.prog F 252 Mx.laws_eqRegS.m = true := by kernel_rfl
theorem ok210 : Mx.okFunc Try.prog F 210 Mx.laws_eqMail.m = true := by kernel_rfl
theorem ok112 : Mx.okFunc Try.prog F 112 Mx.laws_eqMailS.m = true := by kernel_rfl
theorem ok21 : Mx.okFunc Try.prog F 21 Mx.laws_eqBox.m = true := by kernel_rfl
theorem ok91 : Mx.okFunc Try.prog F 91 Mx.spec_MailAt.m = true := by kernel_rfl
theorem ok22 : Mx.okFunc Try.prog F 22 Mx.spec_KeepsUid.m = true := by kernel_rfl
theorem ok161 : Mx.okFunc Try.prog F 161 Mx.slices_IndexFunc_impl_Mail_impl_Mail.m = true := by kernel_rfl
theorem ok160 : Mx.okFunc Try.prog F 160 Mx.impl_MailAt_1.m = true := by kernel_rfl
theorem ok72 : Mx.okFunc Try.prog F 72 Mx.impl_MailAt.m = true := by kernel_rfl
theorem ok23 : Mx.okFunc Try.prog F 23 Mx.impl_KeepsUid.m = true := by kernel_rfl
theorem ok366 : Mx.okFunc Try.prog F 366 Mx.laws_FnExactKeepsUid.m = true := by kernel_rfl
theorem table : Mx.TableOk Try.prog F M := by
  refine Mx.table_list ?_
  · simp only [tab, List.forall_mem_cons]
    exact ⟨ok250, ok208, ok107, ok108, ok17, ok42, ok109, ok288, ok251, ok209, ok110, ok18, ok45, ok111, ok289, ok252, ok210, ok112, ok21, ok91, ok22, ok161, ok160, ok72, ok23, ok366, by simp⟩
theorem k250 : Mx.laws_szRegS.k M := rfl
theorem k208 : Mx.laws_szMail.k M := ⟨rfl, k250⟩
theorem k107 : Mx.laws_szMailS.k M := ⟨rfl, k208⟩
theorem k108 : Mx.laws_szIntS.k M := rfl
theorem k17 : Mx.laws_szBox.k M := ⟨rfl, k107, k108⟩
theorem k42 : Mx.laws_toIntS.k M := rfl
theorem k109 : Mx.laws_toStamp.k M := rfl
theorem k288 : Mx.laws_toReg.k M := ⟨rfl, k109⟩
theorem k251 : Mx.laws_toRegS.k M := ⟨rfl, k288⟩
theorem k209 : Mx.laws_toMail.k M := ⟨rfl, k251⟩
theorem k110 : Mx.laws_toMailS.k M := ⟨rfl, k209⟩
theorem k18 : Mx.laws_toBox.k M := ⟨rfl, k42, k109, k110⟩
theorem k45 : Mx.laws_eqIntS.k M := rfl
theorem k111 : Mx.laws_eqStamp.k M := rfl
theorem k289 : Mx.laws_eqReg.k M := ⟨rfl, k111⟩
theorem k252 : Mx.laws_eqRegS.k M := ⟨rfl, k289⟩
theorem k210 : Mx.laws_eqMail.k M := ⟨rfl, k252⟩
theorem k112 : Mx.laws_eqMailS.k M := ⟨rfl, k210⟩
theorem k21 : Mx.laws_eqBox.k M := ⟨rfl, k45, k111, k112⟩
theorem k91 : Mx.spec_MailAt.k M := rfl
theorem k22 : Mx.spec_KeepsUid.k M := ⟨rfl, k91⟩
theorem k161 : Mx.slices_IndexFunc_impl_Mail_impl_Mail.k M := rfl
theorem k160 : Mx.impl_MailAt_1.k M := rfl
theorem k72 : Mx.impl_MailAt.k M := ⟨rfl, k160, k161⟩
theorem k23 : Mx.impl_KeepsUid.k M := ⟨rfl, k72⟩
theorem k366 : Mx.laws_FnExactKeepsUid.k M := ⟨rfl, k17, k18, k21, k22, k23⟩

theorem own : ownKnob Try.prog.godebug = none := by kernel_rfl
set_option maxRecDepth 100000 in
theorem lifted (os : Os) (started : os.Started) (H : Type) (enc : TypeId × Value → H) :
    ReturnsInHanded {} Try.checked os 6 .any (Rows.fnExactKeepsUidSpec.pre6 enc Try.prog Try.f6 Rows.fnExactKeepsUidRow.domain false) (Rows.fnExactKeepsUidSpec.post enc Try.prog Try.f6 false true false false) := by
  refine Mx.lift_row (C := Try.checked) (F := F) (M := M) (fn := Try.f6) (rt := 4) table 366 60 [.struct Mx.ctBox, .struct Mx.ctBox, .cell (.int .i64)] own started (by kernel_rfl) Try.func6
    (ChangeSpec.witness6 (enc := enc) (C := Try.checked) false ⟨#[], #[.agg #[.int .i64 1, .string ByteArray.empty, .int .i64 0, .int .i64 0, .int .i64 1, .slice none 0 0, .slice none 0 0], .agg #[.int .i64 1, .string ByteArray.empty, .int .i64 0, .int .i64 0, .int .i64 1, .slice none 0 0, .slice none 0 0], .int .i64 1], []⟩ 12 (by kernel_rfl) (by kernel_rfl) (by kernel_rfl) (by kernel_rfl))
    (by kernel_rfl) (by kernel_rfl) (by rfl) (by kernel_rfl) rfl (fun ds h => ?_) (fun xs h => ?_)
  · match ds, h with
    | [d0, d1, d2], _ => rfl
  · have k := k366
    exact Mx.laws_FnExactKeepsUid.row k h
theorem over : Rows.fnExactKeepsUidRow.holds Try.pinned (OpenSpec.ofChange Rows.fnExactKeepsUidSpec) :=
  OpenClaim.holds_of_wide 6 Try.f6 rfl rfl rfl rfl rfl rfl rfl ⟨rfl, rfl, rfl, rfl, rfl⟩ rfl rfl rfl rfl rfl (by kernel_rfl) Try.func6 (by kernel_rfl)
    (of_decide_eq_true (by kernel_rfl)) (by unfold Func.isWrapper; first | (rw [if_pos (by decide +kernel)]; kernel_rfl) | (rw [if_neg (by decide +kernel)]; exact ⟨rfl, rfl⟩))
    (fun os started H enc _ => lifted os started H enc)
theorem proved : Rows.FnExactKeepsUidSaid := over
#print axioms proved
end Go.Proofs.Ytddgjibndegbaaa.fnExactKeepsUid

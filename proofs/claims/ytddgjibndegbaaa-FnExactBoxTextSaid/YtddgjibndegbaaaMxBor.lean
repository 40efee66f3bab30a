/-
  PROVED: at every input FnExactBoxText returns true, and its arguments read as they did. No condition.
-/
import Derived.Test.YtddgjibndegbaaaRows
import Derived.Test.YtddgjibndegbaaaMxBob
set_option linter.unusedSimpArgs false
set_option linter.unusedVariables false
namespace Go.Proofs.Ytddgjibndegbaaa.fnExactBoxText
open Go.ChangeShapes Go.WideShapes Go.ChangeAt Go.RowKit
set_option linter.unusedVariables false
def num : List (Nat × Nat) := [(250, 142), (208, 110), (107, 64), (108, 65), (17, 21), (42, 36), (109, 67), (288, 170), (251, 143), (209, 111), (110, 68), (18, 23), (45, 38), (111, 70), (289, 171), (252, 144), (210, 114), (112, 71), (21, 25), (99, 57), (98, 55), (91, 66), (132, 83), (90, 118), (183, 119), (186, 120), (276, 172), (242, 146), (187, 121), (88, 79), (122, 80), (34, 33), (101, 58), (161, 112), (160, 113), (72, 69), (147, 93), (89, 94), (164, 122), (165, 123), (272, 173), (235, 147), (166, 124), (234, 148), (156, 125), (74, 81), (230, 138), (205, 106), (102, 60), (151, 101), (213, 126), (123, 82), (35, 34), (368, 8)]
def tab : List (Nat × Mx.Fn) := [(250, Mx.laws_szRegS.m), (208, Mx.laws_szMail.m), (107, Mx.laws_szMailS.m), (108, Mx.laws_szIntS.m), (17, Mx.laws_szBox.m), (42, Mx.laws_toIntS.m), (109, Mx.laws_toStamp.m), (288, Mx.laws_toReg.m), (251, Mx.laws_toRegS.m), (209, Mx.laws_toMail.m), (110, Mx.laws_toMailS.m), (18, Mx.laws_toBox.m), (45, Mx.laws_eqIntS.m), (111, Mx.laws_eqStamp.m), (289, Mx.laws_eqReg.m), (252, Mx.laws_eqRegS.m), (210, Mx.laws_eqMail.m), (112, Mx.laws_eqMailS.m), (21, Mx.laws_eqBox.m), (99, Mx.spec_l01Var.m), (98, Mx.spec_l01In.m), (91, Mx.spec_MailAt.m), (132, Mx.spec_l06In.m), (90, Mx.spec_NameOk.m), (183, Mx.spec_StampOk.m), (186, Mx.spec_l06Sorted.m), (276, Mx.spec_RegOk.m), (242, Mx.spec_FlagsOk.m), (187, Mx.spec_MailOk.m), (88, Mx.spec_BoxOk.m), (122, Mx.spec_MailText.m), (34, Mx.spec_BoxText.m), (101, Mx.impl_within.m), (161, Mx.slices_IndexFunc_impl_Mail_impl_Mail.m), (160, Mx.impl_MailAt_1.m), (72, Mx.impl_MailAt.m), (147, Mx.impl_isGid.m), (89, Mx.impl_NameOk.m), (164, Mx.impl_StampOk.m), (165, Mx.impl_areGids.m), (272, Mx.impl_RegOk.m), (235, Mx.impl_FlagsOk.m), (166, Mx.impl_MailOk.m), (234, Mx.slices_Index_int_int.m), (156, Mx.slices_Contains_int_int.m), (74, Mx.impl_BoxOk.m), (230, Mx.impl_VarText.m), (205, Mx.impl_ShortText.m), (102, Mx.impl_short.m), (151, Mx.impl_vars.m), (213, Mx.impl_MailText.m), (123, Mx.impl_boxText.m), (35, Mx.impl_BoxText.m), (368, Mx.laws_FnExactBoxText.m)]
def F : Nat → FuncId := Mx.tabF num
def M : Nat → Option Mx.Body := Mx.tabM tab
theorem ok250 : Mx.okFunc Try.prog F 250 Mx.laws_szRegS.m = true := by kernel_rfl
theorem ok208 : Mx.okFunc Try.prog F 208 Mx.laws_szMail.m = true := by kernel_rfl
theorem ok107 : Mx.okFunc Try.prog F 107 Mx.laws_szMailS.m = true := by kernel_rfl
theorem ok108 : Mx.okFunc Try.prog F 108 Mx.laws_szIntS.m = true := by kernel_rfl
theorem ok17 : Mx.okFunc Try.prog F 17 Mx.laws_szBox.m = true := by kernel_rfl
theorem ok42 : Mx.okFunc Try.prog F 42 Mx.laws_toIntS.m = true := by kernel_rfl
theorem ok109 : Mx.okFunc Try.prog F 109 Mx.laws_toStamp.m = true := by kernel_rfl
theorem ok288 : Mx.okFunc Try.prog F 288 Mx.laws_toReg.m = true := by kernel_rfl
theorem ok251 : Mx.okFunc Try.prog F 251 Mx.laws_toRegS.m = true := by kernel_rfl
theorem ok209 : Mx.okFunc Try.prog F 209 Mx.laws_toMail.m = true := by kernel_rfl
theorem ok110 : Mx.okFunc Try.prog F 110 Mx.laws_toMailS.m = true := by kernel_rfl
theorem ok18 : Mx.okFunc Try.prog F 18 Mx.laws_toBox.m = true := by kernel_rfl
theorem ok45 : Mx.okFunc Try.prog F 45 Mx.laws_eqIntS.m = true := by kernel_rfl
theorem ok111 : Mx.okFunc Try.prog F 111 Mx.laws_eqStamp.m = true := by kernel_rfl
theorem ok289 : Mx.okFunc Try.prog F 289 Mx.laws_eqReg.m = true := by kernel_rfl
theorem ok252 : Mx.okFunc Try.prog F 252 Mx.laws_eqRegS.m = true := by kernel_rfl
theorem ok210 : Mx.okFunc Try.prog F 210 Mx.laws_eqMail.m = true := by kernel_rfl
theorem ok112 : Mx.okFunc Try.prog F 112 Mx.laws_eqMailS.m = true := by kernel_rfl
theorem ok21 : Mx.okFunc Try.prog F 21 Mx.laws_eqBox.m = true := by kernel_rfl
theorem ok99 : Mx.okFunc Try.prog F 99 Mx.spec_l01Var.m = true := by kernel_rfl
theorem ok98 : Mx.okFunc Try.prog F 98 Mx.spec_l01In.m = true := by kernel_rfl
theorem ok91 : Mx.okFunc Try.prog F 91 Mx.spec_MailAt.m = true := by kernel_rfl
theorem ok132 : Mx.okFunc Try.prog F 132 Mx.spec_l06In.m = true := by kernel_rfl
theorem ok90 : Mx.okFunc Try.prog F 90 Mx.spec_NameOk.m = true := by kernel_rfl
theorem ok183 : Mx.okFunc Try.prog F 183 Mx.spec_StampOk.m = true := by kernel_rfl
theorem ok186 : Mx.okFunc Try.prog F 186 Mx.spec_l06Sorted.m = true := by kernel_rfl
theorem ok276 : Mx.okFunc Try.prog F 276 Mx.spec_RegOk.m = true := by kernel_rfl
theorem ok242 : Mx.okFunc Try.prog F 242 Mx.spec_FlagsOk.m = true := by kernel_rfl
theorem ok187 : Mx.okFunc Try.prog F 187 Mx.spec_MailOk.m = true := by kernel_rfl
theorem ok88 : Mx.okFunc Try.prog F 88 Mx.spec_BoxOk.m = true := by kernel_rfl
theorem ok122 : Mx.okFunc Try.prog F 122 Mx.spec_MailText.m = true := by kernel_rfl
theorem ok34 : Mx.okFunc Try.prog F 34 Mx.spec_BoxText.m = true := by kernel_rfl
theorem ok101 : Mx.okFunc Try.prog F 101 Mx.impl_within.m = true := by kernel_rfl
theorem ok161 : Mx.okFunc Try.prog F 161 Mx.slices_IndexFunc_impl_Mail_impl_Mail.m = true := by kernel_rfl
theorem ok160 : Mx.okFunc Try.prog F 160 Mx.impl_MailAt_1.m = true := by kernel_rfl
theorem ok72 : Mx.okFunc Try.prog F 72 Mx.impl_MailAt.m = true := by kernel_rfl
theorem ok147 : Mx.okFunc Try.prog F 147 Mx.impl_isGid.m = true := by kernel_rfl
theorem ok89 : Mx.okFunc Try.prog F 89 Mx.impl_NameOk.m = true := by kernel_rfl
theorem ok164 : Mx.okFunc Try.prog F 164 Mx.impl_StampOk.m = true := by kernel_rfl
theorem ok165 : Mx.okFunc Try.prog F 165 Mx.impl_areGids.m = true := by kernel_rfl
theorem ok272 : Mx.okFunc Try.prog F 272 Mx.impl_RegOk.m = true := by kernel_rfl
theorem ok235 : Mx.okFunc Try.prog F 235 Mx.impl_FlagsOk.m = true := by kernel_rfl
theorem ok166 : Mx.okFunc Try.prog F 166 Mx.impl_MailOk.m = true := by kernel_rfl
theorem ok234 : Mx.okFunc Try.prog F 234 Mx.slices_Index_int_int.m = true := by kernel_rfl
theorem ok156 : Mx.okFunc Try.prog F 156 Mx.slices_Contains_int_int.m = true := by kernel_rfl
theorem ok74 : Mx.okFunc Try.prog F 74 Mx.impl_BoxOk.m = true := by kernel_rfl
theorem ok230 : Mx.okFunc Try.prog F 230 Mx.impl_VarText.m = true := by kernel_rfl
theorem ok205 : Mx.okFunc Try.prog F 205 Mx.impl_ShortText.m = true := by kernel_rfl
theorem ok102 : Mx.okFunc Try.prog F 102 Mx.impl_short.m = true := by kernel_rfl
theorem ok151 : Mx.okFunc Try.prog F 151 Mx.impl_vars.m = true := by kernel_rfl
theorem ok213 : Mx.okFunc Try.prog F 213 Mx.impl_MailText.m = true := by kernel_rfl
theorem ok123 : Mx.okFunc Try.prog F 123 Mx.impl_boxText.m = true := by kernel_rfl
theorem ok35 : Mx.okFunc Try.prog F 35 Mx.impl_BoxText.m = true := by kernel_rfl
theorem ok368 : Mx.okFunc Try.prog F 368 Mx.laws_FnExactBoxText.m = true := by kernel_rfl
theorem table : Mx.TableOk Try.prog F M := by
  refine Mx.table_list ?_
  · simp only [tab, List.forall_mem_cons]
    exact ⟨ok250, ok208, ok107, ok108, ok17, ok42, ok109, ok288, ok251, ok209, ok110, ok18, ok45, ok111, ok289, ok252, ok210, ok112, ok21, ok99, ok98, ok91, ok132, ok90, ok183, ok186, ok276, ok242, ok187, ok88, ok122, ok34, ok101, ok161, ok160, ok72, ok147, ok89, ok164, ok165, ok272, ok235, ok166, ok234, ok156, ok74, ok230, ok205, ok102, ok151, ok213, ok123, ok35, ok368, by simp⟩
theorem k250 : Mx.laws_szRegS.k M := rfl
theorem k208 : Mx.laws_szMail.k M := ⟨rfl, k250⟩
theorem k107 : Mx.laws_szMailS.k M := ⟨rfl, k208⟩
theorem k108 : Mx.laws_szIntS.k M := rfl
theorem k17 : Mx.laws_szBox.k M := ⟨rfl, k107, k108⟩
theorem k42 : Mx.laws_toIntS.k M := rfl
theorem k109 : Mx.laws_toStamp.k M := rfl
theorem k288 : Mx.laws_toReg.k M := ⟨rfl, k109⟩
theorem k251 : Mx.laws_toRegS.k M := ⟨rfl, k288⟩
theorem k209 : Mx.laws_toMail.k M := ⟨rfl, k251⟩
theorem k110 : Mx.laws_toMailS.k M := ⟨rfl, k209⟩
theorem k18 : Mx.laws_toBox.k M := ⟨rfl, k42, k109, k110⟩
theorem k45 : Mx.laws_eqIntS.k M := rfl
theorem k111 : Mx.laws_eqStamp.k M := rfl
theorem k289 : Mx.laws_eqReg.k M := ⟨rfl, k111⟩
theorem k252 : Mx.laws_eqRegS.k M := ⟨rfl, k289⟩
theorem k210 : Mx.laws_eqMail.k M := ⟨rfl, k252⟩
theorem k112 : Mx.laws_eqMailS.k M := ⟨rfl, k210⟩
theorem k21 : Mx.laws_eqBox.k M := ⟨rfl, k45, k111, k112⟩
theorem k99 : Mx.spec_l01Var.k M := rfl
theorem k98 : Mx.spec_l01In.k M := rfl
theorem k91 : Mx.spec_MailAt.k M := rfl
theorem k132 : Mx.spec_l06In.k M := rfl
theorem k90 : Mx.spec_NameOk.k M := ⟨rfl, k98⟩
theorem k183 : Mx.spec_StampOk.k M := ⟨rfl, k98⟩
theorem k186 : Mx.spec_l06Sorted.k M := ⟨rfl, k98⟩
theorem k276 : Mx.spec_RegOk.k M := ⟨rfl, k98, k183⟩
theorem k242 : Mx.spec_FlagsOk.k M := ⟨rfl, k276⟩
theorem k187 : Mx.spec_MailOk.k M := ⟨rfl, k98, k242⟩
theorem k88 : Mx.spec_BoxOk.k M := ⟨rfl, k90, k91, k98, k132, k183, k186, k187⟩
theorem k122 : Mx.spec_MailText.k M := ⟨rfl, k99, k187⟩
theorem k34 : Mx.spec_BoxText.k M := ⟨rfl, k88, k99, k122⟩
theorem k101 : Mx.impl_within.k M := rfl
theorem k161 : Mx.slices_IndexFunc_impl_Mail_impl_Mail.k M := rfl
theorem k160 : Mx.impl_MailAt_1.k M := rfl
theorem k72 : Mx.impl_MailAt.k M := ⟨rfl, k160, k161⟩
theorem k147 : Mx.impl_isGid.k M := ⟨rfl, k101⟩
theorem k89 : Mx.impl_NameOk.k M := ⟨rfl, k101⟩
theorem k164 : Mx.impl_StampOk.k M := ⟨rfl, k101⟩
theorem k165 : Mx.impl_areGids.k M := ⟨rfl, k147⟩
theorem k272 : Mx.impl_RegOk.k M := ⟨rfl, k101, k164⟩
theorem k235 : Mx.impl_FlagsOk.k M := ⟨rfl, k272⟩
theorem k166 : Mx.impl_MailOk.k M := ⟨rfl, k147, k235⟩
theorem k234 : Mx.slices_Index_int_int.k M := rfl
theorem k156 : Mx.slices_Contains_int_int.k M := ⟨rfl, k234⟩
theorem k74 : Mx.impl_BoxOk.k M := ⟨rfl, k72, k89, k101, k147, k156, k164, k165, k166⟩
theorem k230 : Mx.impl_VarText.k M := ⟨rfl, k101⟩
theorem k205 : Mx.impl_ShortText.k M := ⟨rfl, k230⟩
theorem k102 : Mx.impl_short.k M := ⟨rfl, k205⟩
theorem k151 : Mx.impl_vars.k M := ⟨rfl, k230⟩
theorem k213 : Mx.impl_MailText.k M := ⟨rfl, k102, k151, k166⟩
theorem k123 : Mx.impl_boxText.k M := ⟨rfl, k102, k151, k213⟩
theorem k35 : Mx.impl_BoxText.k M := ⟨rfl, k74, k123⟩
theorem k368 : Mx.laws_FnExactBoxText.k M := ⟨rfl, k17, k18, k21, k34, k35⟩

theorem own : ownKnob Try.prog.godebug = none := by kernel_rfl
set_option maxRecDepth 100000 in
theorem lifted (os : Os) (started : os.Started) (H : Type) (enc : TypeId × Value → H) :
    ReturnsInHanded {} Try.checked os 8 .any (Rows.fnExactBoxTextSpec.pre6 enc Try.prog Try.f8 Rows.fnExactBoxTextRow.domain false) (Rows.fnExactBoxTextSpec.post enc Try.prog Try.f8 false true false false) := by
  refine Mx.lift_row (C := Try.checked) (F := F) (M := M) (fn := Try.f8) (rt := 4) table 368 60 [.struct Mx.ctBox] own started (by kernel_rfl) Try.func8
    (ChangeSpec.witness6 (enc := enc) (C := Try.checked) false ⟨#[], #[.agg #[.int .i64 1, .string ByteArray.empty, .int .i64 0, .int .i64 0, .int .i64 1, .slice none 0 0, .slice none 0 0]], []⟩ 12 (by kernel_rfl) (by kernel_rfl) (by kernel_rfl) (by kernel_rfl))
    (by kernel_rfl) (by kernel_rfl) (by rfl) (by kernel_rfl) rfl (fun ds h => ?_) (fun xs h => ?_)
  · match ds, h with
    | [d0], _ => rfl
  · have k := k368
    exact Mx.laws_FnExactBoxText.row k h
theorem over : Rows.fnExactBoxTextRow.holds Try.pinned (OpenSpec.ofChange Rows.fnExactBoxTextSpec) :=
  OpenClaim.holds_of_wide 8 Try.f8 rfl rfl rfl rfl rfl rfl rfl ⟨rfl, rfl, rfl, rfl, rfl⟩ rfl rfl rfl rfl rfl (by kernel_rfl) Try.func8 (by kernel_rfl)
    (of_decide_eq_true (by kernel_rfl)) (by unfold Func.isWrapper; first | (rw [if_pos (by decide +kernel)]; kernel_rfl) | (rw [if_neg (by decide +kernel)]; exact ⟨rfl, rfl⟩))
    (fun os started H enc _ => lifted os started H enc)
theorem proved : Rows.FnExactBoxTextSaid := over
#print axioms proved
end Go.Proofs.Ytddgjibndegbaaa.fnExactBoxText

/-
  PROVED: at every input FnExactSameStore returns true, and its arguments read as they did. No condition.
-/
import Derived.Test.YtpocolhpkkkmeaaRows
import Derived.Test.YtpocolhpkkkmeaaMxStd
set_option linter.unusedSimpArgs false
set_option linter.unusedVariables false
namespace Go.Proofs.Ytpocolhpkkkmeaa.fnExactSameStore
open Go.ChangeShapes Go.WideShapes Go.ChangeAt Go.RowKit
set_option linter.unusedVariables false
def num : List (Nat × Nat) := [(108, 36), (250, 149), (208, 133), (107, 115), (17, 86), (115, 35), (29, 7), (42, 42), (109, 117), (288, 158), (251, 150), (209, 134), (110, 118), (18, 92), (117, 41), (30, 9), (45, 48), (111, 123), (289, 159), (252, 151), (210, 135), (112, 124), (21, 100), (121, 47), (33, 11), (98, 77), (90, 33), (91, 34), (132, 76), (183, 80), (186, 84), (276, 131), (242, 113), (187, 85), (88, 31), (226, 87), (227, 88), (149, 37), (99, 38), (122, 89), (34, 39), (202, 90), (248, 116), (201, 91), (100, 40), (60, 8), (62, 12), (161, 59), (160, 60), (72, 19), (101, 65), (89, 32), (234, 104), (156, 54), (147, 63), (164, 64), (165, 66), (272, 127), (235, 107), (166, 67), (74, 21), (200, 119), (271, 120), (228, 93), (229, 94), (150, 43), (230, 95), (151, 44), (205, 121), (102, 96), (213, 97), (123, 45), (204, 98), (249, 122), (203, 99), (103, 46), (61, 10), (63, 13), (389, 4)]
def tab : List (Nat × Mx.Fn) := [(108, Mx.laws_szIntS.m), (250, Mx.laws_szRegS.m), (208, Mx.laws_szMail.m), (107, Mx.laws_szMailS.m), (17, Mx.laws_szBox.m), (115, Mx.laws_szBoxS.m), (29, Mx.laws_szStore.m), (42, Mx.laws_toIntS.m), (109, Mx.laws_toStamp.m), (288, Mx.laws_toReg.m), (251, Mx.laws_toRegS.m), (209, Mx.laws_toMail.m), (110, Mx.laws_toMailS.m), (18, Mx.laws_toBox.m), (117, Mx.laws_toBoxS.m), (30, Mx.laws_toStore.m), (45, Mx.laws_eqIntS.m), (111, Mx.laws_eqStamp.m), (289, Mx.laws_eqReg.m), (252, Mx.laws_eqRegS.m), (210, Mx.laws_eqMail.m), (112, Mx.laws_eqMailS.m), (21, Mx.laws_eqBox.m), (121, Mx.laws_eqBoxS.m), (33, Mx.laws_eqStore.m), (98, Mx.spec_l01In.m), (90, Mx.spec_NameOk.m), (91, Mx.spec_MailAt.m), (132, Mx.spec_l06In.m), (183, Mx.spec_StampOk.m), (186, Mx.spec_l06Sorted.m), (276, Mx.spec_RegOk.m), (242, Mx.spec_FlagsOk.m), (187, Mx.spec_MailOk.m), (88, Mx.spec_BoxOk.m), (226, Mx.spec_BoxNamed.m), (227, Mx.spec_l07Times.m), (149, Mx.spec_StoreOk.m), (99, Mx.spec_l01Var.m), (122, Mx.spec_MailText.m), (34, Mx.spec_BoxText.m), (202, Mx.spec_l02Four.m), (248, Mx.spec_SumMore.m), (201, Mx.spec_SumOf.m), (100, Mx.spec_Sealed.m), (60, Mx.spec_StoreText.m), (62, Mx.spec_SameStore.m), (161, Mx.slices_IndexFunc_impl_Mail_impl_Mail.m), (160, Mx.impl_MailAt_1.m), (72, Mx.impl_MailAt.m), (101, Mx.impl_within.m), (89, Mx.impl_NameOk.m), (234, Mx.slices_Index_int_int.m), (156, Mx.slices_Contains_int_int.m), (147, Mx.impl_isGid.m), (164, Mx.impl_StampOk.m), (165, Mx.impl_areGids.m), (272, Mx.impl_RegOk.m), (235, Mx.impl_FlagsOk.m), (166, Mx.impl_MailOk.m), (74, Mx.impl_BoxOk.m), (200, Mx.slices_IndexFunc_impl_Box_impl_Box.m), (271, Mx.impl_BoxNamed_1.m), (228, Mx.impl_BoxNamed.m), (229, Mx.impl_isLate.m), (150, Mx.impl_StoreOk.m), (230, Mx.impl_VarText.m), (151, Mx.impl_vars.m), (205, Mx.impl_ShortText.m), (102, Mx.impl_short.m), (213, Mx.impl_MailText.m), (123, Mx.impl_boxText.m), (204, Mx.impl_four.m), (249, Mx.impl_SumMore.m), (203, Mx.impl_SumOf.m), (103, Mx.impl_Sealed.m), (61, Mx.impl_StoreText.m), (63, Mx.impl_SameStore.m), (389, Mx.laws_FnExactSameStore.m)]
def F : Nat → FuncId := Mx.tabF num
def M : Nat → Option Mx.Body := Mx.tabM tab
theorem ok108 : Mx.okFunc Try.prog F 108 Mx.laws_szIntS.m = true := by kernel_rfl
theorem ok250 : Mx.okFunc Try.prog F 250 Mx.laws_szRegS.m = true := by kernel_rfl
theorem ok208 : Mx.okFunc Try.prog F 208 Mx.laws_szMail.m = true := by kernel_rfl
theorem ok107 : Mx.okFunc Try.prog F 107 Mx.laws_szMailS.m = true := by kernel_rfl
theorem ok17 : Mx.okFunc Try.prog F 17 Mx.laws_szBox.m = true := by kernel_rfl
theorem ok115 : Mx.okFunc Try.prog F 115 Mx.laws_szBoxS.m = true := by kernel_rfl
theorem ok29 : Mx.okFunc Try.prog F 29 Mx.laws_szStore.m = true := by kernel_rfl
theorem ok42 : Mx.okFunc Try.prog F 42 Mx.laws_toIntS.m = true := by kernel_rfl
theorem ok109 : Mx.okFunc Try.prog F 109 Mx.laws_toStamp.m = true := by kernel_rfl
theorem ok288 : Mx.okFunc Try.prog F 288 Mx.laws_toReg.m = true := by kernel_rfl
theorem ok251 : Mx.okFunc Try.prog F 251 Mx.laws_toRegS.m = true := by kernel_rfl
theorem ok209 : Mx.okFunc Try.prog F 209 Mx.laws_toMail.m = true := by kernel_rfl
theorem ok110 : Mx.okFunc Try.prog F 110 Mx.laws_toMailS.m = true := by kernel_rfl
theorem ok18 : Mx.okFunc Try.prog F 18 Mx.laws_toBox.m = true := by kernel_rfl
theorem ok117 : Mx.okFunc Try.prog F 117 Mx.laws_toBoxS.m = true := by kernel_rfl
theorem ok30 : Mx.okFunc Try.prog F 30 Mx.laws_toStore.m = true := by kernel_rfl
theorem ok45 : Mx.okFunc Try.prog F 45 Mx.laws_eqIntS.m = true := by kernel_rfl
theorem ok111 : Mx.okFunc Try.prog F 111 Mx.laws_eqStamp.m = true := by kernel_rfl
theorem ok289 : Mx.okFunc Try.prog F 289 Mx.laws_eqReg.m = true := by kernel_rfl
theorem ok252 : Mx.okFunc Try.prog F 252 Mx.laws_eqRegS.m = true := by kernel_rfl
theorem ok210 : Mx.okFunc Try.prog F 210 Mx.laws_eqMail.m = true := by kernel_rfl
theorem ok112 : Mx.okFunc Try.prog F 112 Mx.laws_eqMailS.m = true := by kernel_rfl
theorem ok21 : Mx.okFunc Try.prog F 21 Mx.laws_eqBox.m = true := by kernel_rfl
theorem ok121 : Mx.okFunc Try.prog F 121 Mx.laws_eqBoxS.m = true := by kernel_rfl
theorem ok33 : Mx.okFunc Try.prog F 33 Mx.laws_eqStore.m = true := by kernel_rfl
theorem ok98 : Mx.okFunc Try.prog F 98 Mx.spec_l01In.m = true := by kernel_rfl
theorem ok90 : Mx.okFunc Try.prog F 90 Mx.spec_NameOk.m = true := by kernel_rfl
theorem ok91 : Mx.okFunc Try.prog F 91 Mx.spec_MailAt.m = true := by kernel_rfl
theorem ok132 : Mx.okFunc Try.prog F 132 Mx.spec_l06In.m = true := by kernel_rfl
theorem ok183 : Mx.okFunc Try.prog F 183 Mx.spec_StampOk.m = true := by kernel_rfl
theorem ok186 : Mx.okFunc Try.prog F 186 Mx.spec_l06Sorted.m = true := by kernel_rfl
theorem ok276 : Mx.okFunc Try.prog F 276 Mx.spec_RegOk.m = true := by kernel_rfl
theorem ok242 : Mx.okFunc Try.prog F 242 Mx.spec_FlagsOk.m = true := by kernel_rfl
theorem ok187 : Mx.okFunc Try.prog F 187 Mx.spec_MailOk.m = true := by kernel_rfl
theorem ok88 : Mx.okFunc Try.prog F 88 Mx.spec_BoxOk.m = true := by kernel_rfl
theorem ok226 : Mx.okFunc Try.prog F 226 Mx.spec_BoxNamed.m = true := by kernel_rfl
theorem ok227 : Mx.okFunc Try.prog F 227 Mx.spec_l07Times.m = true := by kernel_rfl
theorem ok149 : Mx.okFunc Try.prog F 149 Mx.spec_StoreOk.m = true := by kernel_rfl
theorem ok99 : Mx.okFunc Try.prog F 99 Mx.spec_l01Var.m = true := by kernel_rfl
theorem ok122 : Mx.okFunc Try.prog F 122 Mx.spec_MailText.m = true := by kernel_rfl
theorem ok34 : Mx.okFunc Try.prog F 34 Mx.spec_BoxText.m = true := by kernel_rfl
theorem ok202 : Mx.okFunc Try.prog F 202 Mx.spec_l02Four.m = true := by kernel_rfl
theorem ok248 : Mx.okFunc Try.prog F 248 Mx.spec_SumMore.m = true := by kernel_rfl
theorem ok201 : Mx.okFunc Try.prog F 201 Mx.spec_SumOf.m = true := by kernel_rfl
theorem ok100 : Mx.okFunc Try.prog F 100 Mx.spec_Sealed.m = true := by kernel_rfl
theorem ok60 : Mx.okFunc Try.prog F 60 Mx.spec_StoreText.m = true := by kernel_rfl
theorem ok62 : Mx.okFunc Try.prog F 62 Mx.spec_SameStore.m = true := by kernel_rfl
theorem ok161 : Mx.okFunc Try.prog F 161 Mx.slices_IndexFunc_impl_Mail_impl_Mail.m = true := by kernel_rfl
theorem ok160 : Mx.okFunc Try.prog F 160 Mx.impl_MailAt_1.m = true := by kernel_rfl
theorem ok72 : Mx.okFunc Try.prog F 72 Mx.impl_MailAt.m = true := by kernel_rfl
theorem ok101 : Mx.okFunc Try.prog F 101 Mx.impl_within.m = true := by kernel_rfl
theorem ok89 : Mx.okFunc Try.prog F 89 Mx.impl_NameOk.m = true := by kernel_rfl
theorem ok234 : Mx.okFunc Try.prog F 234 Mx.slices_Index_int_int.m = true := by kernel_rfl
theorem ok156 : Mx.okFunc Try.prog F 156 Mx.slices_Contains_int_int.m = true := by kernel_rfl
theorem ok147 : Mx.okFunc Try.prog F 147 Mx.impl_isGid.m = true := by kernel_rfl
theorem ok164 : Mx.okFunc Try.prog F 164 Mx.impl_StampOk.m = true := by kernel_rfl
theorem ok165 : Mx.okFunc Try.prog F 165 Mx.impl_areGids.m = true := by kernel_rfl
theorem ok272 : Mx.okFunc Try.prog F 272 Mx.impl_RegOk.m = true := by kernel_rfl
theorem ok235 : Mx.okFunc Try.prog F 235 Mx.impl_FlagsOk.m = true := by kernel_rfl
theorem ok166 : Mx.okFunc Try.prog F 166 Mx.impl_MailOk.m = true := by kernel_rfl
theorem ok74 : Mx.okFunc Try.prog F 74 Mx.impl_BoxOk.m = true := by kernel_rfl
theorem ok200 : Mx.okFunc Try.prog F 200 Mx.slices_IndexFunc_impl_Box_impl_Box.m = true := by kernel_rfl
theorem ok271 : Mx.okFunc Try.prog F 271 Mx.impl_BoxNamed_1.m = true := by kernel_rfl
theorem ok228 : Mx.okFunc Try.prog F 228 Mx.impl_BoxNamed.m = true := by kernel_rfl
theorem ok229 : Mx.okFunc Try.prog F 229 Mx.impl_isLate.m = true := by kernel_rfl
theorem ok150 : Mx.okFunc Try.prog F 150 Mx.impl_StoreOk.m = true := by kernel_rfl
theorem ok230 : Mx.okFunc Try.prog F 230 Mx.impl_VarText.m = true := by kernel_rfl
theorem ok151 : Mx.okFunc Try.prog F 151 Mx.impl_vars.m = true := by kernel_rfl
theorem ok205 : Mx.okFunc Try.prog F 205 Mx.impl_ShortText.m = true := by kernel_rfl
theorem ok102 : Mx.okFunc Try.prog F 102 Mx.impl_short.m = true := by kernel_rfl
theorem ok213 : Mx.okFunc Try.prog F 213 Mx.impl_MailText.m = true := by kernel_rfl
theorem ok123 : Mx.okFunc Try.prog F 123 Mx.impl_boxText.m = true := by kernel_rfl
theorem ok204 : Mx.okFunc Try.prog F 204 Mx.impl_four.m = true := by kernel_rfl
theorem ok249 : Mx.okFunc Try.prog F 249 Mx.impl_SumMore.m = true := by kernel_rfl
theorem ok203 : Mx.okFunc Try.prog F 203 Mx.impl_SumOf.m = true := by kernel_rfl
theorem ok103 : Mx.okFunc Try.prog F 103 Mx.impl_Sealed.m = true := by kernel_rfl
theorem ok61 : Mx.okFunc Try.prog F 61 Mx.impl_StoreText.m = true := by kernel_rfl
theorem ok63 : Mx.okFunc Try.prog F 63 Mx.impl_SameStore.m = true := by kernel_rfl
theorem ok389 : Mx.okFunc Try.prog F 389 Mx.laws_FnExactSameStore.m = true := by kernel_rfl
theorem table : Mx.TableOk Try.prog F M := by
  refine Mx.table_list ?_
  · simp only [tab, List.forall_mem_cons]
    exact ⟨ok108, ok250, ok208, ok107, ok17, ok115, ok29, ok42, ok109, ok288, ok251, ok209, ok110, ok18, ok117, ok30, ok45, ok111, ok289, ok252, ok210, ok112, ok21, ok121, ok33, ok98, ok90, ok91, ok132, ok183, ok186, ok276, ok242, ok187, ok88, ok226, ok227, ok149, ok99, ok122, ok34, ok202, ok248, ok201, ok100, ok60, ok62, ok161, ok160, ok72, ok101, ok89, ok234, ok156, ok147, ok164, ok165, ok272, ok235, ok166, ok74, ok200, ok271, ok228, ok229, ok150, ok230, ok151, ok205, ok102, ok213, ok123, ok204, ok249, ok203, ok103, ok61, ok63, ok389, by simp⟩
theorem k108 : Mx.laws_szIntS.k M := rfl
theorem k250 : Mx.laws_szRegS.k M := rfl
theorem k208 : Mx.laws_szMail.k M := ⟨rfl, k250⟩
theorem k107 : Mx.laws_szMailS.k M := ⟨rfl, k208⟩
theorem k17 : Mx.laws_szBox.k M := ⟨rfl, k107, k108⟩
theorem k115 : Mx.laws_szBoxS.k M := ⟨rfl, k17⟩
theorem k29 : Mx.laws_szStore.k M := ⟨rfl, k108, k115⟩
theorem k42 : Mx.laws_toIntS.k M := rfl
theorem k109 : Mx.laws_toStamp.k M := rfl
theorem k288 : Mx.laws_toReg.k M := ⟨rfl, k109⟩
theorem k251 : Mx.laws_toRegS.k M := ⟨rfl, k288⟩
theorem k209 : Mx.laws_toMail.k M := ⟨rfl, k251⟩
theorem k110 : Mx.laws_toMailS.k M := ⟨rfl, k209⟩
theorem k18 : Mx.laws_toBox.k M := ⟨rfl, k42, k109, k110⟩
theorem k117 : Mx.laws_toBoxS.k M := ⟨rfl, k18⟩
theorem k30 : Mx.laws_toStore.k M := ⟨rfl, k42, k117⟩
theorem k45 : Mx.laws_eqIntS.k M := rfl
theorem k111 : Mx.laws_eqStamp.k M := rfl
theorem k289 : Mx.laws_eqReg.k M := ⟨rfl, k111⟩
theorem k252 : Mx.laws_eqRegS.k M := ⟨rfl, k289⟩
theorem k210 : Mx.laws_eqMail.k M := ⟨rfl, k252⟩
theorem k112 : Mx.laws_eqMailS.k M := ⟨rfl, k210⟩
theorem k21 : Mx.laws_eqBox.k M := ⟨rfl, k45, k111, k112⟩
theorem k121 : Mx.laws_eqBoxS.k M := ⟨rfl, k21⟩
theorem k33 : Mx.laws_eqStore.k M := ⟨rfl, k45, k121⟩
theorem k98 : Mx.spec_l01In.k M := rfl
theorem k90 : Mx.spec_NameOk.k M := ⟨rfl, k98⟩
theorem k91 : Mx.spec_MailAt.k M := rfl
theorem k132 : Mx.spec_l06In.k M := rfl
theorem k183 : Mx.spec_StampOk.k M := ⟨rfl, k98⟩
theorem k186 : Mx.spec_l06Sorted.k M := ⟨rfl, k98⟩
theorem k276 : Mx.spec_RegOk.k M := ⟨rfl, k98, k183⟩
theorem k242 : Mx.spec_FlagsOk.k M := ⟨rfl, k276⟩
theorem k187 : Mx.spec_MailOk.k M := ⟨rfl, k98, k242⟩
theorem k88 : Mx.spec_BoxOk.k M := ⟨rfl, k90, k91, k98, k132, k183, k186, k187⟩
theorem k226 : Mx.spec_BoxNamed.k M := rfl
theorem k227 : Mx.spec_l07Times.k M := rfl
theorem k149 : Mx.spec_StoreOk.k M := ⟨rfl, k88, k98, k132, k186, k226, k227⟩
theorem k99 : Mx.spec_l01Var.k M := rfl
theorem k122 : Mx.spec_MailText.k M := ⟨rfl, k99, k187⟩
theorem k34 : Mx.spec_BoxText.k M := ⟨rfl, k88, k99, k122⟩
theorem k202 : Mx.spec_l02Four.k M := rfl
theorem k248 : Mx.spec_SumMore.k M := rfl
theorem k201 : Mx.spec_SumOf.k M := ⟨rfl, k248⟩
theorem k100 : Mx.spec_Sealed.k M := ⟨rfl, k201, k202⟩
theorem k60 : Mx.spec_StoreText.k M := ⟨rfl, k34, k99, k100, k149⟩
theorem k62 : Mx.spec_SameStore.k M := ⟨rfl, k60⟩
theorem k161 : Mx.slices_IndexFunc_impl_Mail_impl_Mail.k M := rfl
theorem k160 : Mx.impl_MailAt_1.k M := rfl
theorem k72 : Mx.impl_MailAt.k M := ⟨rfl, k160, k161⟩
theorem k101 : Mx.impl_within.k M := rfl
theorem k89 : Mx.impl_NameOk.k M := ⟨rfl, k101⟩
theorem k234 : Mx.slices_Index_int_int.k M := rfl
theorem k156 : Mx.slices_Contains_int_int.k M := ⟨rfl, k234⟩
theorem k147 : Mx.impl_isGid.k M := ⟨rfl, k101⟩
theorem k164 : Mx.impl_StampOk.k M := ⟨rfl, k101⟩
theorem k165 : Mx.impl_areGids.k M := ⟨rfl, k147⟩
theorem k272 : Mx.impl_RegOk.k M := ⟨rfl, k101, k164⟩
theorem k235 : Mx.impl_FlagsOk.k M := ⟨rfl, k272⟩
theorem k166 : Mx.impl_MailOk.k M := ⟨rfl, k147, k235⟩
theorem k74 : Mx.impl_BoxOk.k M := ⟨rfl, k72, k89, k101, k147, k156, k164, k165, k166⟩
theorem k200 : Mx.slices_IndexFunc_impl_Box_impl_Box.k M := rfl
theorem k271 : Mx.impl_BoxNamed_1.k M := rfl
theorem k228 : Mx.impl_BoxNamed.k M := ⟨rfl, k200, k271⟩
theorem k229 : Mx.impl_isLate.k M := rfl
theorem k150 : Mx.impl_StoreOk.k M := ⟨rfl, k74, k101, k156, k165, k228, k229⟩
theorem k230 : Mx.impl_VarText.k M := ⟨rfl, k101⟩
theorem k151 : Mx.impl_vars.k M := ⟨rfl, k230⟩
theorem k205 : Mx.impl_ShortText.k M := ⟨rfl, k230⟩
theorem k102 : Mx.impl_short.k M := ⟨rfl, k205⟩
theorem k213 : Mx.impl_MailText.k M := ⟨rfl, k102, k151, k166⟩
theorem k123 : Mx.impl_boxText.k M := ⟨rfl, k102, k151, k213⟩
theorem k204 : Mx.impl_four.k M := rfl
theorem k249 : Mx.impl_SumMore.k M := rfl
theorem k203 : Mx.impl_SumOf.k M := ⟨rfl, k249⟩
theorem k103 : Mx.impl_Sealed.k M := ⟨rfl, k203, k204⟩
theorem k61 : Mx.impl_StoreText.k M := ⟨rfl, k103, k123, k150, k151⟩
theorem k63 : Mx.impl_SameStore.k M := ⟨rfl, k61⟩
theorem k389 : Mx.laws_FnExactSameStore.k M := ⟨rfl, k29, k30, k33, k62, k63⟩

theorem own : ownKnob Try.prog.godebug = none := by kernel_rfl
set_option maxRecDepth 100000 in
theorem lifted (os : Os) (started : os.Started) (H : Type) (enc : TypeId × Value → H) :
    ReturnsInHanded {} Try.checked os 4 .any (Rows.fnExactSameStoreSpec.pre6 enc Try.prog Try.f4 Rows.fnExactSameStoreRow.domain false) (Rows.fnExactSameStoreSpec.post enc Try.prog Try.f4 false true false false) := by
  refine Mx.lift_row (C := Try.checked) (F := F) (M := M) (fn := Try.f4) (rt := 4) table 389 60 [.struct Mx.ctStore, .struct Mx.ctStore] own started (by kernel_rfl) Try.func4
    (ChangeSpec.witness6 (enc := enc) (C := Try.checked) false ⟨#[], #[.agg #[.int .i64 1, .int .i64 0, .slice none 0 0, .slice none 0 0], .agg #[.int .i64 1, .int .i64 0, .slice none 0 0, .slice none 0 0]], []⟩ 12 (by kernel_rfl) (by kernel_rfl) (by kernel_rfl) (by kernel_rfl))
    (by kernel_rfl) (by kernel_rfl) (by rfl) (by kernel_rfl) rfl (fun ds h => ?_) (fun xs h => ?_)
  · match ds, h with
    | [d0, d1], _ => rfl
  · have k := k389
    exact Mx.laws_FnExactSameStore.row k h
theorem over : Rows.fnExactSameStoreRow.holds Try.pinned (OpenSpec.ofChange Rows.fnExactSameStoreSpec) :=
  OpenClaim.holds_of_wide 4 Try.f4 rfl rfl rfl rfl rfl rfl rfl ⟨rfl, rfl, rfl, rfl, rfl⟩ rfl rfl rfl rfl rfl (by kernel_rfl) Try.func4 (by kernel_rfl)
    (of_decide_eq_true (by kernel_rfl)) (by unfold Func.isWrapper; first | (rw [if_pos (by decide +kernel)]; kernel_rfl) | (rw [if_neg (by decide +kernel)]; exact ⟨rfl, rfl⟩))
    (fun os started H enc _ => lifted os started H enc)
theorem proved : Rows.FnExactSameStoreSaid := over
#print axioms proved
end Go.Proofs.Ytpocolhpkkkmeaa.fnExactSameStore

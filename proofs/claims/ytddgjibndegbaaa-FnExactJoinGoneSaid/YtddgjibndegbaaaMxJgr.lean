/-
  PROVED: at every input FnExactJoinGone returns true, and its arguments read as they did. No condition.
-/
import Derived.Test.YtddgjibndegbaaaRows
import Derived.Shelf.Sort.Plain
import Derived.Shelf.Slices.In.SortNone
import Derived.Shelf.Slices.CompactI
import Derived.Test.YtddgjibndegbaaaMxJgb
set_option linter.unusedSimpArgs false
set_option linter.unusedVariables false
namespace Go.Proofs.Ytddgjibndegbaaa.fnExactJoinGone
open Go.ChangeShapes Go.WideShapes Go.ChangeAt Go.RowKit
set_option linter.unusedVariables false
def num : List (Nat × Nat) := [(132, 83), (133, 84), (43, 35), (42, 36), (134, 85), (44, 37), (45, 38), (46, 39), (47, 40), (369, 9), (135, 86), (136, 87)]
def tab : List (Nat × Mx.Fn) := [(132, Mx.spec_l06In.m), (133, Mx.spec_l06Put.m), (43, Mx.spec_JoinGone.m), (42, Mx.laws_toIntS.m), (134, Mx.impl_copyInts.m), (44, Mx.impl_JoinGone.m), (45, Mx.laws_eqIntS.m), (46, Mx.laws_markIntS.m), (47, Mx.laws_heldIntS.m), (369, Mx.laws_FnExactJoinGone.m)]
def F : Nat → FuncId := Mx.tabF num
def exts : List (Nat × (List Mx.V → List (Nat × Mx.Ob) → Option (Mx.V × List (Nat × Mx.Ob)))) := [(135, Mx.sortG), (136, Mx.compactG)]
def M : Nat → Option Mx.Body := Mx.tabZ tab exts
/-- the numbers of the library's functions and types here -/
def rho20 : Go.Shelf.Ren := { f := fun n => if n = 20 then 87 else n, t := fun n => if n = 22 then 33 else n, g := fun n => n }
theorem lays20 : Go.Proofs.Lays2.n20 Try.prog rho20 where
  mixed := by kernel_rfl
  f20 := Try.func87.trans (congrArg some (by kernel_rfl))
  t0 := by kernel_rfl
  a0 := fun w => by kernel_rfl
  z0 := fun w => by kernel_rfl
  v0 := fun w => by kernel_rfl
  t3 := by kernel_rfl
  a3 := fun w => by kernel_rfl
  z3 := fun w => by kernel_rfl
  v3 := fun w => by kernel_rfl
  t4 := by kernel_rfl
  a4 := fun w => by kernel_rfl
  z4 := fun w => by kernel_rfl
  v4 := fun w => by kernel_rfl
  t22 := by kernel_rfl
  a22 := fun w => by kernel_rfl
  z22 := fun w => by kernel_rfl
  v22 := fun w => by kernel_rfl
  i3 := by kernel_rfl
/-- the numbers of the library's functions and types here -/
def rho189 : Go.Shelf.Ren := { f := fun n => if n = 189 then 86 else if n = 125 then 128 else if n = 257 then 127 else if n = 128 then 158 else if n = 129 then 159 else if n = 294 then 149 else if n = 295 then 150 else if n = 296 then 151 else if n = 297 then 152 else if n = 298 then 153 else if n = 299 then 154 else if n = 216 then 155 else if n = 300 then 156 else if n = 301 then 157 else if n = 328 then 174 else if n = 329 then 175 else if n = 330 then 176 else if n = 331 then 177 else if n = 332 then 178 else if n = 215 then 179 else if n = 343 then 186 else n, t := fun n => if n = 28 then 33 else if n = 46 then 137 else if n = 51 then 121 else if n = 53 then 163 else if n = 183 then 154 else if n = 182 then 153 else if n = 131 then 159 else if n = 218 then 177 else if n = 222 then 181 else if n = 228 then 187 else if n = 229 then 188 else n, g := fun n => n }
theorem lays189 : Go.Proofs.Lays.n189 Try.prog rho189 where
  mixed := by kernel_rfl
  f125 := Try.func128.trans (congrArg some (by kernel_rfl))
  f128 := Try.func158.trans (congrArg some (by kernel_rfl))
  f129 := Try.func159.trans (congrArg some (by kernel_rfl))
  f189 := Try.func86.trans (congrArg some (by kernel_rfl))
  f215 := Try.func179.trans (congrArg some (by kernel_rfl))
  f216 := Try.func155.trans (congrArg some (by kernel_rfl))
  f257 := Try.func127.trans (congrArg some (by kernel_rfl))
  f294 := Try.func149.trans (congrArg some (by kernel_rfl))
  f295 := Try.func150.trans (congrArg some (by kernel_rfl))
  f296 := Try.func151.trans (congrArg some (by kernel_rfl))
  f297 := Try.func152.trans (congrArg some (by kernel_rfl))
  f298 := Try.func153.trans (congrArg some (by kernel_rfl))
  f299 := Try.func154.trans (congrArg some (by kernel_rfl))
  f300 := Try.func156.trans (congrArg some (by kernel_rfl))
  f301 := Try.func157.trans (congrArg some (by kernel_rfl))
  f328 := Try.func174.trans (congrArg some (by kernel_rfl))
  f329 := Try.func175.trans (congrArg some (by kernel_rfl))
  f330 := Try.func176.trans (congrArg some (by kernel_rfl))
  f331 := Try.func177.trans (congrArg some (by kernel_rfl))
  f332 := Try.func178.trans (congrArg some (by kernel_rfl))
  f343 := Try.func186.trans (congrArg some (by kernel_rfl))
  t0 := by kernel_rfl
  a0 := fun w => by kernel_rfl
  z0 := fun w => by kernel_rfl
  v0 := fun w => by kernel_rfl
  t3 := by kernel_rfl
  a3 := fun w => by kernel_rfl
  z3 := fun w => by kernel_rfl
  v3 := fun w => by kernel_rfl
  t4 := by kernel_rfl
  a4 := fun w => by kernel_rfl
  z4 := fun w => by kernel_rfl
  v4 := fun w => by kernel_rfl
  t5 := by kernel_rfl
  a5 := fun w => by kernel_rfl
  z5 := fun w => by kernel_rfl
  v5 := fun w => by kernel_rfl
  t9 := by kernel_rfl
  a9 := fun w => by kernel_rfl
  z9 := fun w => by kernel_rfl
  v9 := fun w => by kernel_rfl
  t28 := by kernel_rfl
  a28 := fun w => by kernel_rfl
  z28 := fun w => by kernel_rfl
  v28 := fun w => by kernel_rfl
  t46 := by kernel_rfl
  a46 := fun w => by kernel_rfl
  z46 := fun w => by kernel_rfl
  v46 := fun w => by kernel_rfl
  t51 := by kernel_rfl
  a51 := fun w => by kernel_rfl
  z51 := fun w => by kernel_rfl
  v51 := fun w => by kernel_rfl
  t53 := by kernel_rfl
  a53 := fun w => by kernel_rfl
  z53 := fun w => by kernel_rfl
  v53 := fun w => by kernel_rfl
  t131 := by kernel_rfl
  a131 := fun w => by kernel_rfl
  z131 := fun w => by kernel_rfl
  v131 := fun w => by kernel_rfl
  t182 := by kernel_rfl
  a182 := fun w => by kernel_rfl
  z182 := fun w => by kernel_rfl
  v182 := fun w => by kernel_rfl
  t183 := by kernel_rfl
  a183 := fun w => by kernel_rfl
  z183 := fun w => by kernel_rfl
  v183 := fun w => by kernel_rfl
  t218 := by kernel_rfl
  a218 := fun w => by kernel_rfl
  z218 := fun w => by kernel_rfl
  v218 := fun w => by kernel_rfl
  t222 := by kernel_rfl
  a222 := fun w => by kernel_rfl
  z222 := fun w => by kernel_rfl
  v222 := fun w => by kernel_rfl
  t228 := by kernel_rfl
  a228 := fun w => by kernel_rfl
  z228 := fun w => by kernel_rfl
  v228 := fun w => by kernel_rfl
  t229 := by kernel_rfl
  a229 := fun w => by kernel_rfl
  z229 := fun w => by kernel_rfl
  v229 := fun w => by kernel_rfl
theorem ext135 : Mx.ExtOk Try.prog F 135 Mx.sortG :=
  Mx.ext_sort (by kernel_rfl) (fun p cap w => Go.Proofs.Any.slices_Sort_int_none lays189 p cap w) (fun blk off cap zs w h1 h2 h3 => Go.Proofs.Any.slices_Sort_int lays189 blk off cap zs w h1 h2 h3)
theorem ext136 : Mx.ExtOk Try.prog F 136 Mx.compactG :=
  Mx.ext_compact (by kernel_rfl) (fun p cap w => Go.Proofs.Any.slices_Compact_int_empty lays20 p cap w) (fun blk off cap zs w h1 h2 h3 => Go.Proofs.Any.slices_Compact_int lays20 blk off cap zs w h1 h2 h3) Mx.compact_len
theorem ok132 : Mx.okFunc Try.prog F 132 Mx.spec_l06In.m = true := by kernel_rfl
theorem ok133 : Mx.okFunc Try.prog F 133 Mx.spec_l06Put.m = true := by kernel_rfl
theorem ok43 : Mx.okFunc Try.prog F 43 Mx.spec_JoinGone.m = true := by kernel_rfl
theorem ok42 : Mx.okFunc Try.prog F 42 Mx.laws_toIntS.m = true := by kernel_rfl
theorem ok134 : Mx.okFunc Try.prog F 134 Mx.impl_copyInts.m = true := by kernel_rfl
theorem ok44 : Mx.okFunc Try.prog F 44 Mx.impl_JoinGone.m = true := by kernel_rfl
theorem ok45 : Mx.okFunc Try.prog F 45 Mx.laws_eqIntS.m = true := by kernel_rfl
theorem ok46 : Mx.okFunc Try.prog F 46 Mx.laws_markIntS.m = true := by kernel_rfl
theorem ok47 : Mx.okFunc Try.prog F 47 Mx.laws_heldIntS.m = true := by kernel_rfl
theorem ok369 : Mx.okFunc Try.prog F 369 Mx.laws_FnExactJoinGone.m = true := by kernel_rfl
theorem table : Mx.TableOk Try.prog F M := by
  refine Mx.table_extz ?_ ?_
  · simp only [tab, List.forall_mem_cons]
    exact ⟨ok132, ok133, ok43, ok42, ok134, ok44, ok45, ok46, ok47, ok369, by simp⟩
  · simp only [exts, List.forall_mem_cons]
    exact ⟨ext135, ext136, by simp⟩
theorem k132 : Mx.spec_l06In.k M := rfl
theorem k133 : Mx.spec_l06Put.k M := rfl
theorem k43 : Mx.spec_JoinGone.k M := ⟨rfl, k132, k133⟩
theorem k42 : Mx.laws_toIntS.k M := rfl
theorem k134 : Mx.impl_copyInts.k M := rfl
theorem k44 : Mx.impl_JoinGone.k M := ⟨rfl, k134, rfl, rfl⟩
theorem k45 : Mx.laws_eqIntS.k M := rfl
theorem k46 : Mx.laws_markIntS.k M := rfl
theorem k47 : Mx.laws_heldIntS.k M := rfl
theorem k369 : Mx.laws_FnExactJoinGone.k M := ⟨rfl, k42, k43, k44, k45, k46, k47⟩

theorem own : ownKnob Try.prog.godebug = none := by kernel_rfl
set_option maxRecDepth 100000 in
theorem lifted (os : Os) (started : os.Started) (H : Type) (enc : TypeId × Value → H) :
    ReturnsInHanded {} Try.checked os 9 .any (Rows.fnExactJoinGoneSpec.pre6 enc Try.prog Try.f9 Rows.fnExactJoinGoneRow.domain false) (Rows.fnExactJoinGoneSpec.post enc Try.prog Try.f9 false true false false) := by
  refine Mx.lift_row (C := Try.checked) (F := F) (M := M) (fn := Try.f9) (rt := 4) table 369 60 [.cell (.sl [.int .i64]), .cell (.sl [.int .i64])] own started (by kernel_rfl) Try.func9
    (ChangeSpec.witness6 (enc := enc) (C := Try.checked) false ⟨#[], #[.slice none 0 0, .slice none 0 0], []⟩ 12 (by kernel_rfl) (by kernel_rfl) (by kernel_rfl) (by kernel_rfl))
    (by kernel_rfl) (by kernel_rfl) (by rfl) (by kernel_rfl) rfl (fun ds h => ?_) (fun xs h => ?_)
  · match ds, h with
    | [d0, d1], _ => rfl
  · have k := k369
    exact Mx.laws_FnExactJoinGone.row k h
theorem over : Rows.fnExactJoinGoneRow.holds Try.pinned (OpenSpec.ofChange Rows.fnExactJoinGoneSpec) :=
  OpenClaim.holds_of_wide 9 Try.f9 rfl rfl rfl rfl rfl rfl rfl ⟨rfl, rfl, rfl, rfl, rfl⟩ rfl rfl rfl rfl rfl (by kernel_rfl) Try.func9 (by kernel_rfl)
    (of_decide_eq_true (by kernel_rfl)) (by unfold Func.isWrapper; first | (rw [if_pos (by decide +kernel)]; kernel_rfl) | (rw [if_neg (by decide +kernel)]; exact ⟨rfl, rfl⟩))
    (fun os started H enc _ => lifted os started H enc)
theorem proved : Rows.FnExactJoinGoneSaid := over
#print axioms proved
end Go.Proofs.Ytddgjibndegbaaa.fnExactJoinGone

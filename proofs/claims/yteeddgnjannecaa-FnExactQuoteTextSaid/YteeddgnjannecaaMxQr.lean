/-
  PROVED: at every text FnExactQuoteText returns true, and its argument reads as it did. No condition.
-/
import Derived.Test.YteeddgnjannecaaRows
import Derived.Test.YteeddgnjannecaaMxQ
import Derived.Test.YteeddgnjannecaaMxB
import Derived.WalkKit
import Derived.ProofKit
import Derived.OpenShut
import Derived.ShutString
import Derived.ChangeOld
import Derived.SizedLaws
namespace Go.Proofs.Yteeddgnjannecaa.fnExactQuoteText
open Go.ChangeShapes Go.WideShapes Go.ChangeAt Go.RowKit
open Go.ChangeMaps (open_string shut_string)
set_option linter.unusedVariables false
def F : Nat → FuncId := fun f => if f = 348 then 3 else if f = 319 then 10 else if f = 127 then 11 else 0
theorem ok348 : Mx.okFunc Try.prog F 348 Mx.laws_FnExactQuoteText.m = true := by kernel_rfl
theorem ok319 : Mx.okFunc Try.prog F 319 Mx.spec_QuoteText.m = true := by kernel_rfl
theorem ok127 : Mx.okFunc Try.prog F 127 Mx.impl_QuoteText.m = true := by kernel_rfl
theorem table : Mx.TableOk Try.prog F Mx.M := by
  intro f
  unfold Mx.M
  by_cases h1 : f = 348
  · subst h1; exact ok348
  by_cases h2 : f = 319
  · subst h2; exact ok319
  by_cases h3 : f = 127
  · subst h3; exact ok127
  simp [h1, h2, h3]

theorem own : ownKnob Try.prog.godebug = none := by kernel_rfl
set_option maxRecDepth 100000 in
theorem lifted (os : Os) (started : os.Started) (H : Type) (enc : TypeId × Value → H) :
    ReturnsInHanded {} Try.checked os 3 .any (Rows.fnExactQuoteTextSpec.pre6 enc Try.prog Try.f3 Rows.fnExactQuoteTextRow.domain false) (Rows.fnExactQuoteTextSpec.post enc Try.prog Try.f3 false true false false) := by
  refine returnsInHanded_of_change_sized (C := Try.checked) own started (by kernel_rfl) Try.func3
    (ChangeSpec.witness6 (enc := enc) (C := Try.checked) false ⟨#[], #[.string ByteArray.empty], []⟩ 8 (by kernel_rfl) (by kernel_rfl) (by kernel_rfl) (by kernel_rfl)) ?_
  intro W base args ds gs before hval0 hW hcnd hsz0 _
  have hval : ∀ (j : Nat) t v, Try.f3.params[j]? = some t → args[j]? = some v → Value.okWide Try.prog W .any base t v := hval0
  have hW' := hW
  obtain ⟨p, q, hA0, hV, rfl, hfz, hnd⟩ := hW
  have hA : DataW.TrodAll enc Try.prog W 0 (fun _ => true) true Try.f3.params.toList args.toList ds p := hA0
  rw [Try.params3] at hA hval
  obtain ⟨v0, vs0, d0, ds0, p0, q0, hargs, rfl, rfl, h0, r0⟩ := trodAll_cons hA
  obtain ⟨rfl, rfl, rfl⟩ := trodAll_nil r0
  obtain rfl : args = #[v0] := by cases args; simp_all
  obtain ⟨rfl, rfl⟩ := trodVars_none hV
  obtain ⟨a0, rfl, rfl, rfl, y0⟩ := open_string Try.underlying9 (hval 0 9 v0 rfl rfl) h0
  obtain ⟨l, rfl⟩ := Mx.of_bytes a0
  refine (Mx.row_calls table (f := 348) (b := true) (Mx.law_run l) (vals := #[.string (Mx.bs l)]) (w := W) rfl ?_).mono fun e W' ⟨he, bel⟩ => ?_
  · intro i v x h1 h2
    cases i with
    | zero => simp at h1 h2; subst h1 h2; exact .c _ _ (.str _)
    | succ i => simp at h1
  subst he
  exact ⟨_, rfl, _, _, _, [], _, [], hW', trodAll_mk1 (shut_bool Try.underlying4 _), (trodAll_cons_mk (shut_string Try.underlying9 y0) trodAll_mk0), rfl, bel.frame _, fun h => by cases h⟩
theorem over : Rows.fnExactQuoteTextRow.holds Try.pinned (OpenSpec.ofChange Rows.fnExactQuoteTextSpec) :=
  OpenClaim.holds_of_wide 3 Try.f3 rfl rfl rfl rfl rfl rfl rfl ⟨rfl, rfl, rfl, rfl, rfl⟩ rfl rfl rfl rfl rfl (by kernel_rfl) Try.func3 (by kernel_rfl)
    (of_decide_eq_true (by kernel_rfl)) (by unfold Func.isWrapper; first | (rw [if_pos (by decide +kernel)]; kernel_rfl) | (rw [if_neg (by decide +kernel)]; exact ⟨rfl, rfl⟩))
    (fun os started H enc _ => lifted os started H enc)
theorem proved : Rows.FnExactQuoteTextSaid := over
#print axioms proved
end Go.Proofs.Yteeddgnjannecaa.fnExactQuoteText

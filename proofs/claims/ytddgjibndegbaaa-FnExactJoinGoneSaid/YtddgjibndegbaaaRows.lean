/-
  No cell of these rows narrows 'for every input' (looked for: loops, veiled, ifaces, maps, wideKeys, modest, calm, conditions, laid).
  DERIVED. THE GIVEN ROWS OF THIS SEAT. 11 by the template 'for every input the law returns true; each argument reads behind the call as it read before'; 0 by the template 'total and deterministic' (their statements: YtddgjibndegbaaaTotals.lean).
  GIVEN WITH THE SEED: the statements are not yours to turn. If you find one false, say at which input.
  Laid BY PROGRAM, IN A SANDBOX (cutbox-rows.mjs): the forced cells as the released guide's own fill.sh prints them over the translation 7b0ff8ae59ff21a5… (all of the seat's roots in one cut). By AI agents, Wed Nov 11 2026. No macro, syntax, notation, axiom, sorry.
-/
import Derived.Test.YtddgjibndegbaaaChecked
import GoSem.Claim
import GoSem.ClaimJoined
import GoSem.ClaimMapViews
import Derived.JoinedTies
import Derived.KernelRfl
namespace Go.Proofs.Ytddgjibndegbaaa
/- THE CELL 'sum', in the pinned program and in every row, IS THE sha256 OF THE DUMP (.gsa) THAT YtddgjibndegbaaaProg.lean LOADS. Nothing in Lean hashes anything: it is a label: what it is worth is what the hold of that sum in a sandbox is worth. -/
noncomputable def Try.pinned : Pinned := { name := "ytddgjibndegbaaa", sum := "7b0ff8ae59ff21a5281bf986a582e9b552d6e643703a2062060a402a9f608ade", checked := Try.checked }
namespace Rows
def none {H : Type} : Left H := { results := [], args := [] }

/-- 'laws.FnExactRecordText': WHATEVER THE INPUT: true; the input reads as it did. -/
def fnExactRecordTextSpec : ChangeSpec := { name := "fnExactRecordText", fn := fun _ => fun
  | [d] => { results := [.lit (.bool true)], args := [d] }
  | _ => none }
def fnExactRecordTextRow : OpenClaim := { program := "ytddgjibndegbaaa", sum := "7b0ff8ae59ff21a5281bf986a582e9b552d6e643703a2062060a402a9f608ade", func := "loop.example/g00324/laws.FnExactRecordText", spec := "fnExactRecordText", apart := false }
def FnExactRecordTextSaid : Prop := fnExactRecordTextRow.holds Try.pinned (OpenSpec.ofChange fnExactRecordTextSpec)

/-- ITS FALSE NEIGHBOUR: 'it returns false'. Refute it at one input. -/
def fnExactRecordTextWrong : ChangeSpec := { name := "fnExactRecordText", fn := fun _ => fun
  | [d] => { results := [.lit (.bool false)], args := [d] }
  | _ => none }
def FnExactRecordTextWrongFalsely : Prop := fnExactRecordTextRow.holds Try.pinned (OpenSpec.ofChange fnExactRecordTextWrong)

/-- 'laws.FnExactReadRecords': WHATEVER THE INPUT: true; the input reads as it did. -/
def fnExactReadRecordsSpec : ChangeSpec := { name := "fnExactReadRecords", fn := fun _ => fun
  | [d] => { results := [.lit (.bool true)], args := [d] }
  | _ => none }
def fnExactReadRecordsRow : OpenClaim := { program := "ytddgjibndegbaaa", sum := "7b0ff8ae59ff21a5281bf986a582e9b552d6e643703a2062060a402a9f608ade", func := "loop.example/g00324/laws.FnExactReadRecords", spec := "fnExactReadRecords", apart := false }
def FnExactReadRecordsSaid : Prop := fnExactReadRecordsRow.holds Try.pinned (OpenSpec.ofChange fnExactReadRecordsSpec)

/-- ITS FALSE NEIGHBOUR: 'it returns false'. Refute it at one input. -/
def fnExactReadRecordsWrong : ChangeSpec := { name := "fnExactReadRecords", fn := fun _ => fun
  | [d] => { results := [.lit (.bool false)], args := [d] }
  | _ => none }
def FnExactReadRecordsWrongFalsely : Prop := fnExactReadRecordsRow.holds Try.pinned (OpenSpec.ofChange fnExactReadRecordsWrong)

/-- 'laws.FnExactHolds': WHATEVER THE INPUT: true; the input reads as it did. -/
def fnExactHoldsSpec : ChangeSpec := { name := "fnExactHolds", fn := fun _ => fun
  | [d1, d2] => { results := [.lit (.bool true)], args := [d1, d2] }
  | _ => none }
def fnExactHoldsRow : OpenClaim := { program := "ytddgjibndegbaaa", sum := "7b0ff8ae59ff21a5281bf986a582e9b552d6e643703a2062060a402a9f608ade", func := "loop.example/g00324/laws.FnExactHolds", spec := "fnExactHolds", unfollowed := true, recurses := true, apart := false }
def FnExactHoldsSaid : Prop := fnExactHoldsRow.holds Try.pinned (OpenSpec.ofChange fnExactHoldsSpec)

/-- ITS FALSE NEIGHBOUR: 'it returns false'. Refute it at one input. -/
def fnExactHoldsWrong : ChangeSpec := { name := "fnExactHolds", fn := fun _ => fun
  | [d1, d2] => { results := [.lit (.bool false)], args := [d1, d2] }
  | _ => none }
def FnExactHoldsWrongFalsely : Prop := fnExactHoldsRow.holds Try.pinned (OpenSpec.ofChange fnExactHoldsWrong)

/-- 'laws.FnExactKeepsUid': WHATEVER THE INPUT: true; the input reads as it did. -/
def fnExactKeepsUidSpec : ChangeSpec := { name := "fnExactKeepsUid", fn := fun _ => fun
  | [d1, d2, d3] => { results := [.lit (.bool true)], args := [d1, d2, d3] }
  | _ => none }
def fnExactKeepsUidRow : OpenClaim := { program := "ytddgjibndegbaaa", sum := "7b0ff8ae59ff21a5281bf986a582e9b552d6e643703a2062060a402a9f608ade", func := "loop.example/g00324/laws.FnExactKeepsUid", spec := "fnExactKeepsUid", unfollowed := true, recurses := true, apart := false }
def FnExactKeepsUidSaid : Prop := fnExactKeepsUidRow.holds Try.pinned (OpenSpec.ofChange fnExactKeepsUidSpec)

/-- ITS FALSE NEIGHBOUR: 'it returns false'. Refute it at one input. -/
def fnExactKeepsUidWrong : ChangeSpec := { name := "fnExactKeepsUid", fn := fun _ => fun
  | [d1, d2, d3] => { results := [.lit (.bool false)], args := [d1, d2, d3] }
  | _ => none }
def FnExactKeepsUidWrongFalsely : Prop := fnExactKeepsUidRow.holds Try.pinned (OpenSpec.ofChange fnExactKeepsUidWrong)

/-- 'laws.FnExactAlike': WHATEVER THE INPUT: true; the input reads as it did. -/
def fnExactAlikeSpec : ChangeSpec := { name := "fnExactAlike", fn := fun _ => fun
  | [d1, d2] => { results := [.lit (.bool true)], args := [d1, d2] }
  | _ => none }
def fnExactAlikeRow : OpenClaim := { program := "ytddgjibndegbaaa", sum := "7b0ff8ae59ff21a5281bf986a582e9b552d6e643703a2062060a402a9f608ade", func := "loop.example/g00324/laws.FnExactAlike", spec := "fnExactAlike", unfollowed := true, recurses := true, apart := false }
def FnExactAlikeSaid : Prop := fnExactAlikeRow.holds Try.pinned (OpenSpec.ofChange fnExactAlikeSpec)

/-- ITS FALSE NEIGHBOUR: 'it returns false'. Refute it at one input. -/
def fnExactAlikeWrong : ChangeSpec := { name := "fnExactAlike", fn := fun _ => fun
  | [d1, d2] => { results := [.lit (.bool false)], args := [d1, d2] }
  | _ => none }
def FnExactAlikeWrongFalsely : Prop := fnExactAlikeRow.holds Try.pinned (OpenSpec.ofChange fnExactAlikeWrong)

/-- 'laws.FnExactBoxText': WHATEVER THE INPUT: true; the input reads as it did. -/
def fnExactBoxTextSpec : ChangeSpec := { name := "fnExactBoxText", fn := fun _ => fun
  | [d] => { results := [.lit (.bool true)], args := [d] }
  | _ => none }
def fnExactBoxTextRow : OpenClaim := { program := "ytddgjibndegbaaa", sum := "7b0ff8ae59ff21a5281bf986a582e9b552d6e643703a2062060a402a9f608ade", func := "loop.example/g00324/laws.FnExactBoxText", spec := "fnExactBoxText", unfollowed := true, recurses := true, apart := false }
def FnExactBoxTextSaid : Prop := fnExactBoxTextRow.holds Try.pinned (OpenSpec.ofChange fnExactBoxTextSpec)

/-- ITS FALSE NEIGHBOUR: 'it returns false'. Refute it at one input. -/
def fnExactBoxTextWrong : ChangeSpec := { name := "fnExactBoxText", fn := fun _ => fun
  | [d] => { results := [.lit (.bool false)], args := [d] }
  | _ => none }
def FnExactBoxTextWrongFalsely : Prop := fnExactBoxTextRow.holds Try.pinned (OpenSpec.ofChange fnExactBoxTextWrong)

/-- 'laws.FnExactJoinGone': WHATEVER THE INPUT: true; the input reads as it did. -/
def fnExactJoinGoneSpec : ChangeSpec := { name := "fnExactJoinGone", fn := fun _ => fun
  | [d1, d2] => { results := [.lit (.bool true)], args := [d1, d2] }
  | _ => none }
def fnExactJoinGoneRow : OpenClaim := { program := "ytddgjibndegbaaa", sum := "7b0ff8ae59ff21a5281bf986a582e9b552d6e643703a2062060a402a9f608ade", func := "loop.example/g00324/laws.FnExactJoinGone", spec := "fnExactJoinGone", recurses := true, apart := false }
def FnExactJoinGoneSaid : Prop := fnExactJoinGoneRow.holds Try.pinned (OpenSpec.ofChange fnExactJoinGoneSpec)

/-- ITS FALSE NEIGHBOUR: 'it returns false'. Refute it at one input. -/
def fnExactJoinGoneWrong : ChangeSpec := { name := "fnExactJoinGone", fn := fun _ => fun
  | [d1, d2] => { results := [.lit (.bool false)], args := [d1, d2] }
  | _ => none }
def FnExactJoinGoneWrongFalsely : Prop := fnExactJoinGoneRow.holds Try.pinned (OpenSpec.ofChange fnExactJoinGoneWrong)

/-- 'laws.FnExactKeptNew': WHATEVER THE INPUT: true; the input reads as it did. -/
def fnExactKeptNewSpec : ChangeSpec := { name := "fnExactKeptNew", fn := fun _ => fun
  | [d] => { results := [.lit (.bool true)], args := [d] }
  | _ => none }
def fnExactKeptNewRow : OpenClaim := { program := "ytddgjibndegbaaa", sum := "7b0ff8ae59ff21a5281bf986a582e9b552d6e643703a2062060a402a9f608ade", func := "loop.example/g00324/laws.FnExactKeptNew", spec := "fnExactKeptNew", apart := false }
def FnExactKeptNewSaid : Prop := fnExactKeptNewRow.holds Try.pinned (OpenSpec.ofChange fnExactKeptNewSpec)

/-- ITS FALSE NEIGHBOUR: 'it returns false'. Refute it at one input. -/
def fnExactKeptNewWrong : ChangeSpec := { name := "fnExactKeptNew", fn := fun _ => fun
  | [d] => { results := [.lit (.bool false)], args := [d] }
  | _ => none }
def FnExactKeptNewWrongFalsely : Prop := fnExactKeptNewRow.holds Try.pinned (OpenSpec.ofChange fnExactKeptNewWrong)

/-- 'laws.FnExactCallOk': WHATEVER THE INPUT: true; the input reads as it did. -/
def fnExactCallOkSpec : ChangeSpec := { name := "fnExactCallOk", fn := fun _ => fun
  | [d] => { results := [.lit (.bool true)], args := [d] }
  | _ => none }
def fnExactCallOkRow : OpenClaim := { program := "ytddgjibndegbaaa", sum := "7b0ff8ae59ff21a5281bf986a582e9b552d6e643703a2062060a402a9f608ade", func := "loop.example/g00324/laws.FnExactCallOk", spec := "fnExactCallOk", unfollowed := true, recurses := true, apart := false }
def FnExactCallOkSaid : Prop := fnExactCallOkRow.holds Try.pinned (OpenSpec.ofChange fnExactCallOkSpec)

/-- ITS FALSE NEIGHBOUR: 'it returns false'. Refute it at one input. -/
def fnExactCallOkWrong : ChangeSpec := { name := "fnExactCallOk", fn := fun _ => fun
  | [d] => { results := [.lit (.bool false)], args := [d] }
  | _ => none }
def FnExactCallOkWrongFalsely : Prop := fnExactCallOkRow.holds Try.pinned (OpenSpec.ofChange fnExactCallOkWrong)

/-- 'laws.FnExactReadCall': WHATEVER THE INPUT: true; the input reads as it did. -/
def fnExactReadCallSpec : ChangeSpec := { name := "fnExactReadCall", fn := fun _ => fun
  | [d] => { results := [.lit (.bool true)], args := [d] }
  | _ => none }
def fnExactReadCallRow : OpenClaim := { program := "ytddgjibndegbaaa", sum := "7b0ff8ae59ff21a5281bf986a582e9b552d6e643703a2062060a402a9f608ade", func := "loop.example/g00324/laws.FnExactReadCall", spec := "fnExactReadCall", unfollowed := true, recurses := true, apart := false }
def FnExactReadCallSaid : Prop := fnExactReadCallRow.holds Try.pinned (OpenSpec.ofChange fnExactReadCallSpec)

/-- ITS FALSE NEIGHBOUR: 'it returns false'. Refute it at one input. -/
def fnExactReadCallWrong : ChangeSpec := { name := "fnExactReadCall", fn := fun _ => fun
  | [d] => { results := [.lit (.bool false)], args := [d] }
  | _ => none }
def FnExactReadCallWrongFalsely : Prop := fnExactReadCallRow.holds Try.pinned (OpenSpec.ofChange fnExactReadCallWrong)

/-- 'laws.FnExactCallText': WHATEVER THE INPUT: true; the input reads as it did. -/
def fnExactCallTextSpec : ChangeSpec := { name := "fnExactCallText", fn := fun _ => fun
  | [d] => { results := [.lit (.bool true)], args := [d] }
  | _ => none }
def fnExactCallTextRow : OpenClaim := { program := "ytddgjibndegbaaa", sum := "7b0ff8ae59ff21a5281bf986a582e9b552d6e643703a2062060a402a9f608ade", func := "loop.example/g00324/laws.FnExactCallText", spec := "fnExactCallText", unfollowed := true, recurses := true, apart := false }
def FnExactCallTextSaid : Prop := fnExactCallTextRow.holds Try.pinned (OpenSpec.ofChange fnExactCallTextSpec)

/-- ITS FALSE NEIGHBOUR: 'it returns false'. Refute it at one input. -/
def fnExactCallTextWrong : ChangeSpec := { name := "fnExactCallText", fn := fun _ => fun
  | [d] => { results := [.lit (.bool false)], args := [d] }
  | _ => none }
def FnExactCallTextWrongFalsely : Prop := fnExactCallTextRow.holds Try.pinned (OpenSpec.ofChange fnExactCallTextWrong)

/- THE SECOND FORM. 'bulk': how many values and letters a reading holds, each counted each time it is reached (what is shared counts as often as it is met; a slice's spare places count too). A statement '..UptoSaid' is the law's where the arguments, and the package variables that the reading takes, are together of bulk at most 1048576: NARROWER than '..Said'. Prove '..Said' where nothing that the law and all that it calls make is longer than what came in: it says more and counts as full. Else prove '..UptoSaid'. A law counts once. -/
mutual
def uptoBulk {H : Type} : DataW H → Nat
  | .lit (.string bytes) => bytes.length + 1
  | .lit _ => 1
  | .nil => 1
  | .ptr d => uptoBulk d + 1
  | .slice elems spare => uptoBulkAll elems + uptoBulkAll spare + 1
  | .agg parts => uptoBulkAll parts + 1
  | .iface _ d => uptoBulk d + 1
  | .map entries => uptoBulkEntries entries + 1
  | .held _ => 1
def uptoBulkAll {H : Type} : List (DataW H) → Nat
  | [] => 0
  | d :: r => uptoBulk d + uptoBulkAll r
def uptoBulkEntries {H : Type} : List (Lit × DataW H) → Nat
  | [] => 0
  | x :: r => uptoBulkEntry x + uptoBulkEntries r
def uptoBulkEntry {H : Type} : Lit × DataW H → Nat
  | (.string bytes, d) => bytes.length + uptoBulk d + 1
  | (_, d) => uptoBulk d + 1
 end
def uptoSmall : (H : Type) → List (DataW H) → Bool := fun _ ds => decide (uptoBulkAll ds ≤ 1048576)
def OpenSpec.upto (s : _root_.Go.ChangeSpec) : _root_.Go.OpenSpec := { _root_.Go.OpenSpec.ofChange s with cond := some uptoSmall }

/-- 'laws.FnExactRecordText', WHERE WHAT IT READS IS OF BULK AT MOST 1048576: true; the input reads as it did. -/
def fnExactRecordTextUptoRow : OpenClaim := { program := "ytddgjibndegbaaa", sum := "7b0ff8ae59ff21a5281bf986a582e9b552d6e643703a2062060a402a9f608ade", func := "loop.example/g00324/laws.FnExactRecordText", spec := "fnExactRecordText", apart := false, narrowed := true }
def FnExactRecordTextUptoSaid : Prop := fnExactRecordTextUptoRow.holds Try.pinned (OpenSpec.upto fnExactRecordTextSpec)

/-- 'laws.FnExactReadRecords', WHERE WHAT IT READS IS OF BULK AT MOST 1048576: true; the input reads as it did. -/
def fnExactReadRecordsUptoRow : OpenClaim := { program := "ytddgjibndegbaaa", sum := "7b0ff8ae59ff21a5281bf986a582e9b552d6e643703a2062060a402a9f608ade", func := "loop.example/g00324/laws.FnExactReadRecords", spec := "fnExactReadRecords", apart := false, narrowed := true }
def FnExactReadRecordsUptoSaid : Prop := fnExactReadRecordsUptoRow.holds Try.pinned (OpenSpec.upto fnExactReadRecordsSpec)

/-- 'laws.FnExactHolds', WHERE WHAT IT READS IS OF BULK AT MOST 1048576: true; the input reads as it did. -/
def fnExactHoldsUptoRow : OpenClaim := { program := "ytddgjibndegbaaa", sum := "7b0ff8ae59ff21a5281bf986a582e9b552d6e643703a2062060a402a9f608ade", func := "loop.example/g00324/laws.FnExactHolds", spec := "fnExactHolds", unfollowed := true, recurses := true, apart := false, narrowed := true }
def FnExactHoldsUptoSaid : Prop := fnExactHoldsUptoRow.holds Try.pinned (OpenSpec.upto fnExactHoldsSpec)

/-- 'laws.FnExactKeepsUid', WHERE WHAT IT READS IS OF BULK AT MOST 1048576: true; the input reads as it did. -/
def fnExactKeepsUidUptoRow : OpenClaim := { program := "ytddgjibndegbaaa", sum := "7b0ff8ae59ff21a5281bf986a582e9b552d6e643703a2062060a402a9f608ade", func := "loop.example/g00324/laws.FnExactKeepsUid", spec := "fnExactKeepsUid", unfollowed := true, recurses := true, apart := false, narrowed := true }
def FnExactKeepsUidUptoSaid : Prop := fnExactKeepsUidUptoRow.holds Try.pinned (OpenSpec.upto fnExactKeepsUidSpec)

/-- 'laws.FnExactAlike', WHERE WHAT IT READS IS OF BULK AT MOST 1048576: true; the input reads as it did. -/
def fnExactAlikeUptoRow : OpenClaim := { program := "ytddgjibndegbaaa", sum := "7b0ff8ae59ff21a5281bf986a582e9b552d6e643703a2062060a402a9f608ade", func := "loop.example/g00324/laws.FnExactAlike", spec := "fnExactAlike", unfollowed := true, recurses := true, apart := false, narrowed := true }
def FnExactAlikeUptoSaid : Prop := fnExactAlikeUptoRow.holds Try.pinned (OpenSpec.upto fnExactAlikeSpec)

/-- 'laws.FnExactBoxText', WHERE WHAT IT READS IS OF BULK AT MOST 1048576: true; the input reads as it did. -/
def fnExactBoxTextUptoRow : OpenClaim := { program := "ytddgjibndegbaaa", sum := "7b0ff8ae59ff21a5281bf986a582e9b552d6e643703a2062060a402a9f608ade", func := "loop.example/g00324/laws.FnExactBoxText", spec := "fnExactBoxText", unfollowed := true, recurses := true, apart := false, narrowed := true }
def FnExactBoxTextUptoSaid : Prop := fnExactBoxTextUptoRow.holds Try.pinned (OpenSpec.upto fnExactBoxTextSpec)

/-- 'laws.FnExactJoinGone', WHERE WHAT IT READS IS OF BULK AT MOST 1048576: true; the input reads as it did. -/
def fnExactJoinGoneUptoRow : OpenClaim := { program := "ytddgjibndegbaaa", sum := "7b0ff8ae59ff21a5281bf986a582e9b552d6e643703a2062060a402a9f608ade", func := "loop.example/g00324/laws.FnExactJoinGone", spec := "fnExactJoinGone", recurses := true, apart := false, narrowed := true }
def FnExactJoinGoneUptoSaid : Prop := fnExactJoinGoneUptoRow.holds Try.pinned (OpenSpec.upto fnExactJoinGoneSpec)

/-- 'laws.FnExactKeptNew', WHERE WHAT IT READS IS OF BULK AT MOST 1048576: true; the input reads as it did. -/
def fnExactKeptNewUptoRow : OpenClaim := { program := "ytddgjibndegbaaa", sum := "7b0ff8ae59ff21a5281bf986a582e9b552d6e643703a2062060a402a9f608ade", func := "loop.example/g00324/laws.FnExactKeptNew", spec := "fnExactKeptNew", apart := false, narrowed := true }
def FnExactKeptNewUptoSaid : Prop := fnExactKeptNewUptoRow.holds Try.pinned (OpenSpec.upto fnExactKeptNewSpec)

/-- 'laws.FnExactCallOk', WHERE WHAT IT READS IS OF BULK AT MOST 1048576: true; the input reads as it did. -/
def fnExactCallOkUptoRow : OpenClaim := { program := "ytddgjibndegbaaa", sum := "7b0ff8ae59ff21a5281bf986a582e9b552d6e643703a2062060a402a9f608ade", func := "loop.example/g00324/laws.FnExactCallOk", spec := "fnExactCallOk", unfollowed := true, recurses := true, apart := false, narrowed := true }
def FnExactCallOkUptoSaid : Prop := fnExactCallOkUptoRow.holds Try.pinned (OpenSpec.upto fnExactCallOkSpec)

/-- 'laws.FnExactReadCall', WHERE WHAT IT READS IS OF BULK AT MOST 1048576: true; the input reads as it did. -/
def fnExactReadCallUptoRow : OpenClaim := { program := "ytddgjibndegbaaa", sum := "7b0ff8ae59ff21a5281bf986a582e9b552d6e643703a2062060a402a9f608ade", func := "loop.example/g00324/laws.FnExactReadCall", spec := "fnExactReadCall", unfollowed := true, recurses := true, apart := false, narrowed := true }
def FnExactReadCallUptoSaid : Prop := fnExactReadCallUptoRow.holds Try.pinned (OpenSpec.upto fnExactReadCallSpec)

/-- 'laws.FnExactCallText', WHERE WHAT IT READS IS OF BULK AT MOST 1048576: true; the input reads as it did. -/
def fnExactCallTextUptoRow : OpenClaim := { program := "ytddgjibndegbaaa", sum := "7b0ff8ae59ff21a5281bf986a582e9b552d6e643703a2062060a402a9f608ade", func := "loop.example/g00324/laws.FnExactCallText", spec := "fnExactCallText", unfollowed := true, recurses := true, apart := false, narrowed := true }
def FnExactCallTextUptoSaid : Prop := fnExactCallTextUptoRow.holds Try.pinned (OpenSpec.upto fnExactCallTextSpec)

end Rows
end Go.Proofs.Ytddgjibndegbaaa

/-
  No cell of these rows narrows 'for every input' (looked for: loops, veiled, ifaces, maps, wideKeys, modest, calm, conditions, laid).
  DERIVED. THE GIVEN ROWS OF THIS SEAT. 7 by the template 'for every input the law returns true; each argument reads behind the call as it read before'; 0 by the template 'total and deterministic' (their statements: YteeddgnjannecaaTotals.lean).
  GIVEN WITH THE SEED: the statements are not yours to turn. If you find one false, say at which input.
  Laid BY PROGRAM, IN A SANDBOX (cutbox-rows.mjs): the forced cells as the released guide's own fill.sh prints them over the translation 0331f6c82d3617b0… (all of the seat's roots in one cut). By AI agents, Wed Nov 11 2026. No macro, syntax, notation, axiom, sorry.
-/
import Derived.Test.YteeddgnjannecaaChecked
import GoSem.Claim
import GoSem.ClaimJoined
import GoSem.ClaimMapViews
import Derived.JoinedTies
import Derived.KernelRfl
namespace Go.Proofs.Yteeddgnjannecaa
/- THE CELL 'sum', in the pinned program and in every row, IS THE sha256 OF THE DUMP (.gsa) THAT YteeddgnjannecaaProg.lean LOADS. Nothing in Lean hashes anything: it is a label: what it is worth is what the hold of that sum in a sandbox is worth. -/
noncomputable def Try.pinned : Pinned := { name := "yteeddgnjannecaa", sum := "0331f6c82d3617b0cf63ccadcf464ab959b2fa6390a84ddad9a207a1ec3f454a", checked := Try.checked }
namespace Rows
def none {H : Type} : Left H := { results := [], args := [] }

/-- 'laws.FnExactQuoteText': WHATEVER THE INPUT: true; the input reads as it did. -/
def fnExactQuoteTextSpec : ChangeSpec := { name := "fnExactQuoteText", fn := fun _ => fun
  | [d] => { results := [.lit (.bool true)], args := [d] }
  | _ => none }
def fnExactQuoteTextRow : OpenClaim := { program := "yteeddgnjannecaa", sum := "0331f6c82d3617b0cf63ccadcf464ab959b2fa6390a84ddad9a207a1ec3f454a", func := "loop.example/g00324/laws.FnExactQuoteText", spec := "fnExactQuoteText", apart := false }
def FnExactQuoteTextSaid : Prop := fnExactQuoteTextRow.holds Try.pinned (OpenSpec.ofChange fnExactQuoteTextSpec)

/-- ITS FALSE NEIGHBOUR: 'it returns false'. Refute it at one input. -/
def fnExactQuoteTextWrong : ChangeSpec := { name := "fnExactQuoteText", fn := fun _ => fun
  | [d] => { results := [.lit (.bool false)], args := [d] }
  | _ => none }
def FnExactQuoteTextWrongFalsely : Prop := fnExactQuoteTextRow.holds Try.pinned (OpenSpec.ofChange fnExactQuoteTextWrong)

/-- 'laws.FnExactSessionNew': WHATEVER THE INPUT: true; the input reads as it did. -/
def fnExactSessionNewSpec : ChangeSpec := { name := "fnExactSessionNew", fn := fun _ => fun
  | [] => { results := [.lit (.bool true)], args := [] }
  | _ => none }
def fnExactSessionNewRow : OpenClaim := { program := "yteeddgnjannecaa", sum := "0331f6c82d3617b0cf63ccadcf464ab959b2fa6390a84ddad9a207a1ec3f454a", func := "loop.example/g00324/laws.FnExactSessionNew", spec := "fnExactSessionNew", apart := false }
def FnExactSessionNewSaid : Prop := fnExactSessionNewRow.holds Try.pinned (OpenSpec.ofChange fnExactSessionNewSpec)

/-- ITS FALSE NEIGHBOUR: 'it returns false'. Refute it at one input. -/
def fnExactSessionNewWrong : ChangeSpec := { name := "fnExactSessionNew", fn := fun _ => fun
  | [] => { results := [.lit (.bool false)], args := [] }
  | _ => none }
def FnExactSessionNewWrongFalsely : Prop := fnExactSessionNewRow.holds Try.pinned (OpenSpec.ofChange fnExactSessionNewWrong)

/-- 'laws.FnExactInSet': WHATEVER THE INPUT: true; the input reads as it did. -/
def fnExactInSetSpec : ChangeSpec := { name := "fnExactInSet", fn := fun _ => fun
  | [d1, d2, d3] => { results := [.lit (.bool true)], args := [d1, d2, d3] }
  | _ => none }
def fnExactInSetRow : OpenClaim := { program := "yteeddgnjannecaa", sum := "0331f6c82d3617b0cf63ccadcf464ab959b2fa6390a84ddad9a207a1ec3f454a", func := "loop.example/g00324/laws.FnExactInSet", spec := "fnExactInSet", apart := false }
def FnExactInSetSaid : Prop := fnExactInSetRow.holds Try.pinned (OpenSpec.ofChange fnExactInSetSpec)

/-- ITS FALSE NEIGHBOUR: 'it returns false'. Refute it at one input. -/
def fnExactInSetWrong : ChangeSpec := { name := "fnExactInSet", fn := fun _ => fun
  | [d1, d2, d3] => { results := [.lit (.bool false)], args := [d1, d2, d3] }
  | _ => none }
def FnExactInSetWrongFalsely : Prop := fnExactInSetRow.holds Try.pinned (OpenSpec.ofChange fnExactInSetWrong)

/-- 'laws.FnExactTokenText': WHATEVER THE INPUT: true; the input reads as it did. -/
def fnExactTokenTextSpec : ChangeSpec := { name := "fnExactTokenText", fn := fun _ => fun
  | [d] => { results := [.lit (.bool true)], args := [d] }
  | _ => none }
def fnExactTokenTextRow : OpenClaim := { program := "yteeddgnjannecaa", sum := "0331f6c82d3617b0cf63ccadcf464ab959b2fa6390a84ddad9a207a1ec3f454a", func := "loop.example/g00324/laws.FnExactTokenText", spec := "fnExactTokenText", apart := false }
def FnExactTokenTextSaid : Prop := fnExactTokenTextRow.holds Try.pinned (OpenSpec.ofChange fnExactTokenTextSpec)

/-- ITS FALSE NEIGHBOUR: 'it returns false'. Refute it at one input. -/
def fnExactTokenTextWrong : ChangeSpec := { name := "fnExactTokenText", fn := fun _ => fun
  | [d] => { results := [.lit (.bool false)], args := [d] }
  | _ => none }
def FnExactTokenTextWrongFalsely : Prop := fnExactTokenTextRow.holds Try.pinned (OpenSpec.ofChange fnExactTokenTextWrong)

/-- 'laws.FnExactAtomOk': WHATEVER THE INPUT: true; the input reads as it did. -/
def fnExactAtomOkSpec : ChangeSpec := { name := "fnExactAtomOk", fn := fun _ => fun
  | [d] => { results := [.lit (.bool true)], args := [d] }
  | _ => none }
def fnExactAtomOkRow : OpenClaim := { program := "yteeddgnjannecaa", sum := "0331f6c82d3617b0cf63ccadcf464ab959b2fa6390a84ddad9a207a1ec3f454a", func := "loop.example/g00324/laws.FnExactAtomOk", spec := "fnExactAtomOk", inPlace := ["internal/bytealg.IndexByteString", "internal/bytealg.IndexString"], named := ["internal/bytealg.MaxLen"], apart := false }
def FnExactAtomOkSaid : Prop := fnExactAtomOkRow.holds Try.pinned (OpenSpec.ofChange fnExactAtomOkSpec)

/-- ITS FALSE NEIGHBOUR: 'it returns false'. Refute it at one input. -/
def fnExactAtomOkWrong : ChangeSpec := { name := "fnExactAtomOk", fn := fun _ => fun
  | [d] => { results := [.lit (.bool false)], args := [d] }
  | _ => none }
def FnExactAtomOkWrongFalsely : Prop := fnExactAtomOkRow.holds Try.pinned (OpenSpec.ofChange fnExactAtomOkWrong)

/-- 'laws.FnExactFeedSession': WHATEVER THE INPUT: true; the input reads as it did. -/
def fnExactFeedSessionSpec : ChangeSpec := { name := "fnExactFeedSession", fn := fun _ => fun
  | [d1, d2] => { results := [.lit (.bool true)], args := [d1, d2] }
  | _ => none }
def fnExactFeedSessionRow : OpenClaim := { program := "yteeddgnjannecaa", sum := "0331f6c82d3617b0cf63ccadcf464ab959b2fa6390a84ddad9a207a1ec3f454a", func := "loop.example/g00324/laws.FnExactFeedSession", spec := "fnExactFeedSession", apart := false }
def FnExactFeedSessionSaid : Prop := fnExactFeedSessionRow.holds Try.pinned (OpenSpec.ofChange fnExactFeedSessionSpec)

/-- ITS FALSE NEIGHBOUR: 'it returns false'. Refute it at one input. -/
def fnExactFeedSessionWrong : ChangeSpec := { name := "fnExactFeedSession", fn := fun _ => fun
  | [d1, d2] => { results := [.lit (.bool false)], args := [d1, d2] }
  | _ => none }
def FnExactFeedSessionWrongFalsely : Prop := fnExactFeedSessionRow.holds Try.pinned (OpenSpec.ofChange fnExactFeedSessionWrong)

/-- 'laws.FnExactPicked': WHATEVER THE INPUT: true; the input reads as it did. -/
def fnExactPickedSpec : ChangeSpec := { name := "fnExactPicked", fn := fun _ => fun
  | [d1, d2] => { results := [.lit (.bool true)], args := [d1, d2] }
  | _ => none }
def fnExactPickedRow : OpenClaim := { program := "yteeddgnjannecaa", sum := "0331f6c82d3617b0cf63ccadcf464ab959b2fa6390a84ddad9a207a1ec3f454a", func := "loop.example/g00324/laws.FnExactPicked", spec := "fnExactPicked", apart := false }
def FnExactPickedSaid : Prop := fnExactPickedRow.holds Try.pinned (OpenSpec.ofChange fnExactPickedSpec)

/-- ITS FALSE NEIGHBOUR: 'it returns false'. Refute it at one input. -/
def fnExactPickedWrong : ChangeSpec := { name := "fnExactPicked", fn := fun _ => fun
  | [d1, d2] => { results := [.lit (.bool false)], args := [d1, d2] }
  | _ => none }
def FnExactPickedWrongFalsely : Prop := fnExactPickedRow.holds Try.pinned (OpenSpec.ofChange fnExactPickedWrong)

/- THE SECOND FORM. 'bulk': how many values and letters a reading holds, each counted each time it is reached (what is shared counts as often as it is met; a slice's spare places count too). A statement '..UptoSaid' is the law's where the arguments, and the package variables that the reading takes, are together of bulk at most 1048576: NARROWER than '..Said'. Prove '..Said' where nothing that the law and all that it calls make is longer than what came in: it says more and counts as full. Else prove '..UptoSaid'. A law counts once. -/
mutual
def uptoBulk {H : Type} : DataW H → Nat
  | .lit (.string bytes) => bytes.length + 1
  | .lit _ => 1
  | .nil => 1
  | .ptr d => uptoBulk d + 1
  | .slice elems spare => uptoBulkAll elems + uptoBulkAll spare + 1
  | .agg parts => uptoBulkAll parts + 1
  | .iface _ d => uptoBulk d + 1
  | .map entries => uptoBulkEntries entries + 1
  | .held _ => 1
def uptoBulkAll {H : Type} : List (DataW H) → Nat
  | [] => 0
  | d :: r => uptoBulk d + uptoBulkAll r
def uptoBulkEntries {H : Type} : List (Lit × DataW H) → Nat
  | [] => 0
  | x :: r => uptoBulkEntry x + uptoBulkEntries r
def uptoBulkEntry {H : Type} : Lit × DataW H → Nat
  | (.string bytes, d) => bytes.length + uptoBulk d + 1
  | (_, d) => uptoBulk d + 1
 end
def uptoSmall : (H : Type) → List (DataW H) → Bool := fun _ ds => decide (uptoBulkAll ds ≤ 1048576)
def OpenSpec.upto (s : _root_.Go.ChangeSpec) : _root_.Go.OpenSpec := { _root_.Go.OpenSpec.ofChange s with cond := some uptoSmall }

/-- 'laws.FnExactQuoteText', WHERE WHAT IT READS IS OF BULK AT MOST 1048576: true; the input reads as it did. -/
def fnExactQuoteTextUptoRow : OpenClaim := { program := "yteeddgnjannecaa", sum := "0331f6c82d3617b0cf63ccadcf464ab959b2fa6390a84ddad9a207a1ec3f454a", func := "loop.example/g00324/laws.FnExactQuoteText", spec := "fnExactQuoteText", apart := false, narrowed := true }
def FnExactQuoteTextUptoSaid : Prop := fnExactQuoteTextUptoRow.holds Try.pinned (OpenSpec.upto fnExactQuoteTextSpec)

/-- 'laws.FnExactSessionNew', WHERE WHAT IT READS IS OF BULK AT MOST 1048576: true; the input reads as it did. -/
def fnExactSessionNewUptoRow : OpenClaim := { program := "yteeddgnjannecaa", sum := "0331f6c82d3617b0cf63ccadcf464ab959b2fa6390a84ddad9a207a1ec3f454a", func := "loop.example/g00324/laws.FnExactSessionNew", spec := "fnExactSessionNew", apart := false, narrowed := true }
def FnExactSessionNewUptoSaid : Prop := fnExactSessionNewUptoRow.holds Try.pinned (OpenSpec.upto fnExactSessionNewSpec)

/-- 'laws.FnExactInSet', WHERE WHAT IT READS IS OF BULK AT MOST 1048576: true; the input reads as it did. -/
def fnExactInSetUptoRow : OpenClaim := { program := "yteeddgnjannecaa", sum := "0331f6c82d3617b0cf63ccadcf464ab959b2fa6390a84ddad9a207a1ec3f454a", func := "loop.example/g00324/laws.FnExactInSet", spec := "fnExactInSet", apart := false, narrowed := true }
def FnExactInSetUptoSaid : Prop := fnExactInSetUptoRow.holds Try.pinned (OpenSpec.upto fnExactInSetSpec)

/-- 'laws.FnExactTokenText', WHERE WHAT IT READS IS OF BULK AT MOST 1048576: true; the input reads as it did. -/
def fnExactTokenTextUptoRow : OpenClaim := { program := "yteeddgnjannecaa", sum := "0331f6c82d3617b0cf63ccadcf464ab959b2fa6390a84ddad9a207a1ec3f454a", func := "loop.example/g00324/laws.FnExactTokenText", spec := "fnExactTokenText", apart := false, narrowed := true }
def FnExactTokenTextUptoSaid : Prop := fnExactTokenTextUptoRow.holds Try.pinned (OpenSpec.upto fnExactTokenTextSpec)

/-- 'laws.FnExactAtomOk', WHERE WHAT IT READS IS OF BULK AT MOST 1048576: true; the input reads as it did. -/
def fnExactAtomOkUptoRow : OpenClaim := { program := "yteeddgnjannecaa", sum := "0331f6c82d3617b0cf63ccadcf464ab959b2fa6390a84ddad9a207a1ec3f454a", func := "loop.example/g00324/laws.FnExactAtomOk", spec := "fnExactAtomOk", inPlace := ["internal/bytealg.IndexByteString", "internal/bytealg.IndexString"], named := ["internal/bytealg.MaxLen"], apart := false, narrowed := true }
def FnExactAtomOkUptoSaid : Prop := fnExactAtomOkUptoRow.holds Try.pinned (OpenSpec.upto fnExactAtomOkSpec)

/-- 'laws.FnExactFeedSession', WHERE WHAT IT READS IS OF BULK AT MOST 1048576: true; the input reads as it did. -/
def fnExactFeedSessionUptoRow : OpenClaim := { program := "yteeddgnjannecaa", sum := "0331f6c82d3617b0cf63ccadcf464ab959b2fa6390a84ddad9a207a1ec3f454a", func := "loop.example/g00324/laws.FnExactFeedSession", spec := "fnExactFeedSession", apart := false, narrowed := true }
def FnExactFeedSessionUptoSaid : Prop := fnExactFeedSessionUptoRow.holds Try.pinned (OpenSpec.upto fnExactFeedSessionSpec)

/-- 'laws.FnExactPicked', WHERE WHAT IT READS IS OF BULK AT MOST 1048576: true; the input reads as it did. -/
def fnExactPickedUptoRow : OpenClaim := { program := "yteeddgnjannecaa", sum := "0331f6c82d3617b0cf63ccadcf464ab959b2fa6390a84ddad9a207a1ec3f454a", func := "loop.example/g00324/laws.FnExactPicked", spec := "fnExactPicked", apart := false, narrowed := true }
def FnExactPickedUptoSaid : Prop := fnExactPickedUptoRow.holds Try.pinned (OpenSpec.upto fnExactPickedSpec)

end Rows
end Go.Proofs.Yteeddgnjannecaa

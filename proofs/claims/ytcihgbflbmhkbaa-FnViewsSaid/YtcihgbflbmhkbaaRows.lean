/-
  No cell of these rows narrows 'for every input' (looked for: loops, veiled, ifaces, maps, wideKeys, modest, calm, conditions, laid).
  DERIVED. THE GIVEN ROWS OF THIS SEAT. 5 by the template 'for every input the law returns true; each argument reads behind the call as it read before'; 0 by the template 'total and deterministic' (their statements: YtcihgbflbmhkbaaTotals.lean).
  GIVEN WITH THE SEED: the statements are not yours to turn. If you find one false, say at which input.
  Laid BY PROGRAM, IN A SANDBOX (cutbox-rows.mjs): the forced cells as the released guide's own fill.sh prints them over the translation f52aa8dfd81b0729… (all of the seat's roots in one cut). By AI agents, Wed Nov 11 2026. No macro, syntax, notation, axiom, sorry.
-/
import Derived.Test.YtcihgbflbmhkbaaChecked
import GoSem.Claim
import GoSem.ClaimJoined
import GoSem.ClaimMapViews
import Derived.JoinedTies
import Derived.KernelRfl
namespace Go.Proofs.Ytcihgbflbmhkbaa
/- THE CELL 'sum', in the pinned program and in every row, IS THE sha256 OF THE DUMP (.gsa) THAT YtcihgbflbmhkbaaProg.lean LOADS. Nothing in Lean hashes anything: it is a label: what it is worth is what the hold of that sum in a sandbox is worth. -/
noncomputable def Try.pinned : Pinned := { name := "ytcihgbflbmhkbaa", sum := "f52aa8dfd81b0729dfa97dc4ca32e35f88cc0a6c0b60b3beffa3628204bd3fe9", checked := Try.checked }
namespace Rows
def none {H : Type} : Left H := { results := [], args := [] }

/-- 'laws.FnTokens': WHATEVER THE INPUT: true; the input reads as it did. -/
def fnTokensSpec : ChangeSpec := { name := "fnTokens", fn := fun _ => fun
  | [d] => { results := [.lit (.bool true)], args := [d] }
  | _ => none }
def fnTokensRow : OpenClaim := { program := "ytcihgbflbmhkbaa", sum := "f52aa8dfd81b0729dfa97dc4ca32e35f88cc0a6c0b60b3beffa3628204bd3fe9", func := "loop.example/g00324/laws.FnTokens", spec := "fnTokens", inPlace := ["internal/bytealg.IndexByteString", "internal/bytealg.IndexString"], named := ["internal/bytealg.MaxLen"], apart := false }
def FnTokensSaid : Prop := fnTokensRow.holds Try.pinned (OpenSpec.ofChange fnTokensSpec)

/-- ITS FALSE NEIGHBOUR: 'it returns false'. Refute it at one input. -/
def fnTokensWrong : ChangeSpec := { name := "fnTokens", fn := fun _ => fun
  | [d] => { results := [.lit (.bool false)], args := [d] }
  | _ => none }
def FnTokensWrongFalsely : Prop := fnTokensRow.holds Try.pinned (OpenSpec.ofChange fnTokensWrong)

/-- 'laws.FnExactSaveKept': WHATEVER THE INPUT: true; the input reads as it did. -/
def fnExactSaveKeptSpec : ChangeSpec := { name := "fnExactSaveKept", fn := fun _ => fun
  | [d] => { results := [.lit (.bool true)], args := [d] }
  | _ => none }
def fnExactSaveKeptRow : OpenClaim := { program := "ytcihgbflbmhkbaa", sum := "f52aa8dfd81b0729dfa97dc4ca32e35f88cc0a6c0b60b3beffa3628204bd3fe9", func := "loop.example/g00324/laws.FnExactSaveKept", spec := "fnExactSaveKept", apart := false }
def FnExactSaveKeptSaid : Prop := fnExactSaveKeptRow.holds Try.pinned (OpenSpec.ofChange fnExactSaveKeptSpec)

/-- ITS FALSE NEIGHBOUR: 'it returns false'. Refute it at one input. -/
def fnExactSaveKeptWrong : ChangeSpec := { name := "fnExactSaveKept", fn := fun _ => fun
  | [d] => { results := [.lit (.bool false)], args := [d] }
  | _ => none }
def FnExactSaveKeptWrongFalsely : Prop := fnExactSaveKeptRow.holds Try.pinned (OpenSpec.ofChange fnExactSaveKeptWrong)

/-- 'laws.FnExactReadBox': WHATEVER THE INPUT: true; the input reads as it did. -/
def fnExactReadBoxSpec : ChangeSpec := { name := "fnExactReadBox", fn := fun _ => fun
  | [d1, d2] => { results := [.lit (.bool true)], args := [d1, d2] }
  | _ => none }
def fnExactReadBoxRow : OpenClaim := { program := "ytcihgbflbmhkbaa", sum := "f52aa8dfd81b0729dfa97dc4ca32e35f88cc0a6c0b60b3beffa3628204bd3fe9", func := "loop.example/g00324/laws.FnExactReadBox", spec := "fnExactReadBox", unfollowed := true, recurses := true, apart := false }
def FnExactReadBoxSaid : Prop := fnExactReadBoxRow.holds Try.pinned (OpenSpec.ofChange fnExactReadBoxSpec)

/-- ITS FALSE NEIGHBOUR: 'it returns false'. Refute it at one input. -/
def fnExactReadBoxWrong : ChangeSpec := { name := "fnExactReadBox", fn := fun _ => fun
  | [d1, d2] => { results := [.lit (.bool false)], args := [d1, d2] }
  | _ => none }
def FnExactReadBoxWrongFalsely : Prop := fnExactReadBoxRow.holds Try.pinned (OpenSpec.ofChange fnExactReadBoxWrong)

/-- 'laws.FnExactReadStore': WHATEVER THE INPUT: true; the input reads as it did. -/
def fnExactReadStoreSpec : ChangeSpec := { name := "fnExactReadStore", fn := fun _ => fun
  | [d] => { results := [.lit (.bool true)], args := [d] }
  | _ => none }
def fnExactReadStoreRow : OpenClaim := { program := "ytcihgbflbmhkbaa", sum := "f52aa8dfd81b0729dfa97dc4ca32e35f88cc0a6c0b60b3beffa3628204bd3fe9", func := "loop.example/g00324/laws.FnExactReadStore", spec := "fnExactReadStore", unfollowed := true, recurses := true, apart := false }
def FnExactReadStoreSaid : Prop := fnExactReadStoreRow.holds Try.pinned (OpenSpec.ofChange fnExactReadStoreSpec)

/-- ITS FALSE NEIGHBOUR: 'it returns false'. Refute it at one input. -/
def fnExactReadStoreWrong : ChangeSpec := { name := "fnExactReadStore", fn := fun _ => fun
  | [d] => { results := [.lit (.bool false)], args := [d] }
  | _ => none }
def FnExactReadStoreWrongFalsely : Prop := fnExactReadStoreRow.holds Try.pinned (OpenSpec.ofChange fnExactReadStoreWrong)

/-- 'laws.FnViews': WHATEVER THE INPUT: true; the input reads as it did. -/
def fnViewsSpec : ChangeSpec := { name := "fnViews", fn := fun _ => fun
  | [d] => { results := [.lit (.bool true)], args := [d] }
  | _ => none }
def fnViewsRow : OpenClaim := { program := "ytcihgbflbmhkbaa", sum := "f52aa8dfd81b0729dfa97dc4ca32e35f88cc0a6c0b60b3beffa3628204bd3fe9", func := "loop.example/g00324/laws.FnViews", spec := "fnViews", unfollowed := true, recurses := true, apart := false }
def FnViewsSaid : Prop := fnViewsRow.holds Try.pinned (OpenSpec.ofChange fnViewsSpec)

/-- ITS FALSE NEIGHBOUR: 'it returns false'. Refute it at one input. -/
def fnViewsWrong : ChangeSpec := { name := "fnViews", fn := fun _ => fun
  | [d] => { results := [.lit (.bool false)], args := [d] }
  | _ => none }
def FnViewsWrongFalsely : Prop := fnViewsRow.holds Try.pinned (OpenSpec.ofChange fnViewsWrong)

/- THE SECOND FORM. 'bulk': how many values and letters a reading holds, each counted each time it is reached (what is shared counts as often as it is met; a slice's spare places count too). A statement '..UptoSaid' is the law's where the arguments, and the package variables that the reading takes, are together of bulk at most 1048576: NARROWER than '..Said'. Prove '..Said' where nothing that the law and all that it calls make is longer than what came in: it says more and counts as full. Else prove '..UptoSaid'. A law counts once. -/
mutual
def uptoBulk {H : Type} : DataW H → Nat
  | .lit (.string bytes) => bytes.length + 1
  | .lit _ => 1
  | .nil => 1
  | .ptr d => uptoBulk d + 1
  | .slice elems spare => uptoBulkAll elems + uptoBulkAll spare + 1
  | .agg parts => uptoBulkAll parts + 1
  | .iface _ d => uptoBulk d + 1
  | .map entries => uptoBulkEntries entries + 1
  | .held _ => 1
def uptoBulkAll {H : Type} : List (DataW H) → Nat
  | [] => 0
  | d :: r => uptoBulk d + uptoBulkAll r
def uptoBulkEntries {H : Type} : List (Lit × DataW H) → Nat
  | [] => 0
  | x :: r => uptoBulkEntry x + uptoBulkEntries r
def uptoBulkEntry {H : Type} : Lit × DataW H → Nat
  | (.string bytes, d) => bytes.length + uptoBulk d + 1
  | (_, d) => uptoBulk d + 1
 end
def uptoSmall : (H : Type) → List (DataW H) → Bool := fun _ ds => decide (uptoBulkAll ds ≤ 1048576)
def OpenSpec.upto (s : _root_.Go.ChangeSpec) : _root_.Go.OpenSpec := { _root_.Go.OpenSpec.ofChange s with cond := some uptoSmall }

/-- 'laws.FnTokens', WHERE WHAT IT READS IS OF BULK AT MOST 1048576: true; the input reads as it did. -/
def fnTokensUptoRow : OpenClaim := { program := "ytcihgbflbmhkbaa", sum := "f52aa8dfd81b0729dfa97dc4ca32e35f88cc0a6c0b60b3beffa3628204bd3fe9", func := "loop.example/g00324/laws.FnTokens", spec := "fnTokens", inPlace := ["internal/bytealg.IndexByteString", "internal/bytealg.IndexString"], named := ["internal/bytealg.MaxLen"], apart := false, narrowed := true }
def FnTokensUptoSaid : Prop := fnTokensUptoRow.holds Try.pinned (OpenSpec.upto fnTokensSpec)

/-- 'laws.FnExactSaveKept', WHERE WHAT IT READS IS OF BULK AT MOST 1048576: true; the input reads as it did. -/
def fnExactSaveKeptUptoRow : OpenClaim := { program := "ytcihgbflbmhkbaa", sum := "f52aa8dfd81b0729dfa97dc4ca32e35f88cc0a6c0b60b3beffa3628204bd3fe9", func := "loop.example/g00324/laws.FnExactSaveKept", spec := "fnExactSaveKept", apart := false, narrowed := true }
def FnExactSaveKeptUptoSaid : Prop := fnExactSaveKeptUptoRow.holds Try.pinned (OpenSpec.upto fnExactSaveKeptSpec)

/-- 'laws.FnExactReadBox', WHERE WHAT IT READS IS OF BULK AT MOST 1048576: true; the input reads as it did. -/
def fnExactReadBoxUptoRow : OpenClaim := { program := "ytcihgbflbmhkbaa", sum := "f52aa8dfd81b0729dfa97dc4ca32e35f88cc0a6c0b60b3beffa3628204bd3fe9", func := "loop.example/g00324/laws.FnExactReadBox", spec := "fnExactReadBox", unfollowed := true, recurses := true, apart := false, narrowed := true }
def FnExactReadBoxUptoSaid : Prop := fnExactReadBoxUptoRow.holds Try.pinned (OpenSpec.upto fnExactReadBoxSpec)

/-- 'laws.FnExactReadStore', WHERE WHAT IT READS IS OF BULK AT MOST 1048576: true; the input reads as it did. -/
def fnExactReadStoreUptoRow : OpenClaim := { program := "ytcihgbflbmhkbaa", sum := "f52aa8dfd81b0729dfa97dc4ca32e35f88cc0a6c0b60b3beffa3628204bd3fe9", func := "loop.example/g00324/laws.FnExactReadStore", spec := "fnExactReadStore", unfollowed := true, recurses := true, apart := false, narrowed := true }
def FnExactReadStoreUptoSaid : Prop := fnExactReadStoreUptoRow.holds Try.pinned (OpenSpec.upto fnExactReadStoreSpec)

/-- 'laws.FnViews', WHERE WHAT IT READS IS OF BULK AT MOST 1048576: true; the input reads as it did. -/
def fnViewsUptoRow : OpenClaim := { program := "ytcihgbflbmhkbaa", sum := "f52aa8dfd81b0729dfa97dc4ca32e35f88cc0a6c0b60b3beffa3628204bd3fe9", func := "loop.example/g00324/laws.FnViews", spec := "fnViews", unfollowed := true, recurses := true, apart := false, narrowed := true }
def FnViewsUptoSaid : Prop := fnViewsUptoRow.holds Try.pinned (OpenSpec.upto fnViewsSpec)

end Rows
end Go.Proofs.Ytcihgbflbmhkbaa

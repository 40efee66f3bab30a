/-
  No cell of these rows narrows 'for every input' (looked for: loops, veiled, ifaces, maps, wideKeys, modest, calm, conditions, laid).
  DERIVED. THE GIVEN ROWS OF THIS SEAT. 6 by the template 'for every input the law returns true; each argument reads behind the call as it read before'; 0 by the template 'total and deterministic' (their statements: YtcihgbflbmhkbaaGreatTotals.lean).
  GIVEN WITH THE SEED: the statements are not yours to turn. If you find one false, say at which input.
  Laid BY PROGRAM, IN A SANDBOX (cutbox-rows.mjs): the forced cells as the released guide's own fill.sh prints them over the translation 951ac2763fae3056… (all of the seat's roots in one cut). By AI agents, Wed Nov 11 2026. No macro, syntax, notation, axiom, sorry.
-/
import Derived.Test.YtcihgbflbmhkbaaGreatChecked
import GoSem.Claim
import GoSem.ClaimJoined
import GoSem.ClaimMapViews
import Derived.JoinedTies
import Derived.KernelRfl
namespace Go.Proofs.YtcihgbflbmhkbaaGreat
/- THE CELL 'sum', in the pinned program and in every row, IS THE sha256 OF THE DUMP (.gsa) THAT YtcihgbflbmhkbaaGreatProg.lean LOADS. Nothing in Lean hashes anything: it is a label: what it is worth is what the hold of that sum in a sandbox is worth. -/
noncomputable def Tryz.pinned : Pinned := { name := "ytcihgbflbmhkbaagreat", sum := "951ac2763fae3056645048f9a125a24b04cd1490d50aef492232b450ad061052", checked := Tryz.checked }
namespace Rows
def none {H : Type} : Left H := { results := [], args := [] }

/-- 'laws.FnStoresJoin': WHATEVER THE INPUT: true; the input reads as it did. -/
def fnStoresJoinSpec : ChangeSpec := { name := "fnStoresJoin", fn := fun _ => fun
  | [d] => { results := [.lit (.bool true)], args := [d] }
  | _ => none }
def fnStoresJoinRow : OpenClaim := { program := "ytcihgbflbmhkbaagreat", sum := "951ac2763fae3056645048f9a125a24b04cd1490d50aef492232b450ad061052", func := "loop.example/g00324/laws.FnStoresJoin", spec := "fnStoresJoin", unfollowed := true, recurses := true, apart := false }
def FnStoresJoinSaid : Prop := fnStoresJoinRow.holds Tryz.pinned (OpenSpec.ofChange fnStoresJoinSpec)

/-- ITS FALSE NEIGHBOUR: 'it returns false'. Refute it at one input. -/
def fnStoresJoinWrong : ChangeSpec := { name := "fnStoresJoin", fn := fun _ => fun
  | [d] => { results := [.lit (.bool false)], args := [d] }
  | _ => none }
def FnStoresJoinWrongFalsely : Prop := fnStoresJoinRow.holds Tryz.pinned (OpenSpec.ofChange fnStoresJoinWrong)

/-- 'laws.FnJournals': WHATEVER THE INPUT: true; the input reads as it did. -/
def fnJournalsSpec : ChangeSpec := { name := "fnJournals", fn := fun _ => fun
  | [d] => { results := [.lit (.bool true)], args := [d] }
  | _ => none }
def fnJournalsRow : OpenClaim := { program := "ytcihgbflbmhkbaagreat", sum := "951ac2763fae3056645048f9a125a24b04cd1490d50aef492232b450ad061052", func := "loop.example/g00324/laws.FnJournals", spec := "fnJournals", inPlace := ["slices.overlaps[loop.example/g00324/impl.Box]"], unfollowed := true, recurses := true, apart := false }
def FnJournalsSaid : Prop := fnJournalsRow.holds Tryz.pinned (OpenSpec.ofChange fnJournalsSpec)

/-- ITS FALSE NEIGHBOUR: 'it returns false'. Refute it at one input. -/
def fnJournalsWrong : ChangeSpec := { name := "fnJournals", fn := fun _ => fun
  | [d] => { results := [.lit (.bool false)], args := [d] }
  | _ => none }
def FnJournalsWrongFalsely : Prop := fnJournalsRow.holds Tryz.pinned (OpenSpec.ofChange fnJournalsWrong)

/-- 'laws.FnExactDropBox': WHATEVER THE INPUT: true; the input reads as it did. -/
def fnExactDropBoxSpec : ChangeSpec := { name := "fnExactDropBox", fn := fun _ => fun
  | [d1, d2] => { results := [.lit (.bool true)], args := [d1, d2] }
  | _ => none }
def fnExactDropBoxRow : OpenClaim := { program := "ytcihgbflbmhkbaagreat", sum := "951ac2763fae3056645048f9a125a24b04cd1490d50aef492232b450ad061052", func := "loop.example/g00324/laws.FnExactDropBox", spec := "fnExactDropBox", unfollowed := true, recurses := true, apart := false }
def FnExactDropBoxSaid : Prop := fnExactDropBoxRow.holds Tryz.pinned (OpenSpec.ofChange fnExactDropBoxSpec)

/-- ITS FALSE NEIGHBOUR: 'it returns false'. Refute it at one input. -/
def fnExactDropBoxWrong : ChangeSpec := { name := "fnExactDropBox", fn := fun _ => fun
  | [d1, d2] => { results := [.lit (.bool false)], args := [d1, d2] }
  | _ => none }
def FnExactDropBoxWrongFalsely : Prop := fnExactDropBoxRow.holds Tryz.pinned (OpenSpec.ofChange fnExactDropBoxWrong)

/-- 'laws.FnStoresGrow': WHATEVER THE INPUT: true; the input reads as it did. -/
def fnStoresGrowSpec : ChangeSpec := { name := "fnStoresGrow", fn := fun _ => fun
  | [d] => { results := [.lit (.bool true)], args := [d] }
  | _ => none }
def fnStoresGrowRow : OpenClaim := { program := "ytcihgbflbmhkbaagreat", sum := "951ac2763fae3056645048f9a125a24b04cd1490d50aef492232b450ad061052", func := "loop.example/g00324/laws.FnStoresGrow", spec := "fnStoresGrow", unfollowed := true, recurses := true, apart := false }
def FnStoresGrowSaid : Prop := fnStoresGrowRow.holds Tryz.pinned (OpenSpec.ofChange fnStoresGrowSpec)

/-- ITS FALSE NEIGHBOUR: 'it returns false'. Refute it at one input. -/
def fnStoresGrowWrong : ChangeSpec := { name := "fnStoresGrow", fn := fun _ => fun
  | [d] => { results := [.lit (.bool false)], args := [d] }
  | _ => none }
def FnStoresGrowWrongFalsely : Prop := fnStoresGrowRow.holds Tryz.pinned (OpenSpec.ofChange fnStoresGrowWrong)

/-- 'laws.FnCallsAll': WHATEVER THE INPUT: true; the input reads as it did. -/
def fnCallsAllSpec : ChangeSpec := { name := "fnCallsAll", fn := fun _ => fun
  | [d] => { results := [.lit (.bool true)], args := [d] }
  | _ => none }
def fnCallsAllRow : OpenClaim := { program := "ytcihgbflbmhkbaagreat", sum := "951ac2763fae3056645048f9a125a24b04cd1490d50aef492232b450ad061052", func := "loop.example/g00324/laws.FnCallsAll", spec := "fnCallsAll", inPlace := ["slices.overlaps[loop.example/g00324/impl.Box]"], unfollowed := true, recurses := true, apart := false }
def FnCallsAllSaid : Prop := fnCallsAllRow.holds Tryz.pinned (OpenSpec.ofChange fnCallsAllSpec)

/-- ITS FALSE NEIGHBOUR: 'it returns false'. Refute it at one input. -/
def fnCallsAllWrong : ChangeSpec := { name := "fnCallsAll", fn := fun _ => fun
  | [d] => { results := [.lit (.bool false)], args := [d] }
  | _ => none }
def FnCallsAllWrongFalsely : Prop := fnCallsAllRow.holds Tryz.pinned (OpenSpec.ofChange fnCallsAllWrong)

/-- 'laws.FnCalls': WHATEVER THE INPUT: true; the input reads as it did. -/
def fnCallsSpec : ChangeSpec := { name := "fnCalls", fn := fun _ => fun
  | [d] => { results := [.lit (.bool true)], args := [d] }
  | _ => none }
def fnCallsRow : OpenClaim := { program := "ytcihgbflbmhkbaagreat", sum := "951ac2763fae3056645048f9a125a24b04cd1490d50aef492232b450ad061052", func := "loop.example/g00324/laws.FnCalls", spec := "fnCalls", inPlace := ["slices.overlaps[loop.example/g00324/impl.Box]"], unfollowed := true, recurses := true, apart := false }
def FnCallsSaid : Prop := fnCallsRow.holds Tryz.pinned (OpenSpec.ofChange fnCallsSpec)

/-- ITS FALSE NEIGHBOUR: 'it returns false'. Refute it at one input. -/
def fnCallsWrong : ChangeSpec := { name := "fnCalls", fn := fun _ => fun
  | [d] => { results := [.lit (.bool false)], args := [d] }
  | _ => none }
def FnCallsWrongFalsely : Prop := fnCallsRow.holds Tryz.pinned (OpenSpec.ofChange fnCallsWrong)

/- THE SECOND FORM. 'bulk': how many values and letters a reading holds, each counted each time it is reached (what is shared counts as often as it is met; a slice's spare places count too). A statement '..UptoSaid' is the law's where the arguments, and the package variables that the reading takes, are together of bulk at most 1048576: NARROWER than '..Said'. Prove '..Said' where nothing that the law and all that it calls make is longer than what came in: it says more and counts as full. Else prove '..UptoSaid'. A law counts once. -/
mutual
def uptoBulk {H : Type} : DataW H → Nat
  | .lit (.string bytes) => bytes.length + 1
  | .lit _ => 1
  | .nil => 1
  | .ptr d => uptoBulk d + 1
  | .slice elems spare => uptoBulkAll elems + uptoBulkAll spare + 1
  | .agg parts => uptoBulkAll parts + 1
  | .iface _ d => uptoBulk d + 1
  | .map entries => uptoBulkEntries entries + 1
  | .held _ => 1
def uptoBulkAll {H : Type} : List (DataW H) → Nat
  | [] => 0
  | d :: r => uptoBulk d + uptoBulkAll r
def uptoBulkEntries {H : Type} : List (Lit × DataW H) → Nat
  | [] => 0
  | x :: r => uptoBulkEntry x + uptoBulkEntries r
def uptoBulkEntry {H : Type} : Lit × DataW H → Nat
  | (.string bytes, d) => bytes.length + uptoBulk d + 1
  | (_, d) => uptoBulk d + 1
 end
def uptoSmall : (H : Type) → List (DataW H) → Bool := fun _ ds => decide (uptoBulkAll ds ≤ 1048576)
def OpenSpec.upto (s : _root_.Go.ChangeSpec) : _root_.Go.OpenSpec := { _root_.Go.OpenSpec.ofChange s with cond := some uptoSmall }

/-- 'laws.FnStoresJoin', WHERE WHAT IT READS IS OF BULK AT MOST 1048576: true; the input reads as it did. -/
def fnStoresJoinUptoRow : OpenClaim := { program := "ytcihgbflbmhkbaagreat", sum := "951ac2763fae3056645048f9a125a24b04cd1490d50aef492232b450ad061052", func := "loop.example/g00324/laws.FnStoresJoin", spec := "fnStoresJoin", unfollowed := true, recurses := true, apart := false, narrowed := true }
def FnStoresJoinUptoSaid : Prop := fnStoresJoinUptoRow.holds Tryz.pinned (OpenSpec.upto fnStoresJoinSpec)

/-- 'laws.FnJournals', WHERE WHAT IT READS IS OF BULK AT MOST 1048576: true; the input reads as it did. -/
def fnJournalsUptoRow : OpenClaim := { program := "ytcihgbflbmhkbaagreat", sum := "951ac2763fae3056645048f9a125a24b04cd1490d50aef492232b450ad061052", func := "loop.example/g00324/laws.FnJournals", spec := "fnJournals", inPlace := ["slices.overlaps[loop.example/g00324/impl.Box]"], unfollowed := true, recurses := true, apart := false, narrowed := true }
def FnJournalsUptoSaid : Prop := fnJournalsUptoRow.holds Tryz.pinned (OpenSpec.upto fnJournalsSpec)

/-- 'laws.FnExactDropBox', WHERE WHAT IT READS IS OF BULK AT MOST 1048576: true; the input reads as it did. -/
def fnExactDropBoxUptoRow : OpenClaim := { program := "ytcihgbflbmhkbaagreat", sum := "951ac2763fae3056645048f9a125a24b04cd1490d50aef492232b450ad061052", func := "loop.example/g00324/laws.FnExactDropBox", spec := "fnExactDropBox", unfollowed := true, recurses := true, apart := false, narrowed := true }
def FnExactDropBoxUptoSaid : Prop := fnExactDropBoxUptoRow.holds Tryz.pinned (OpenSpec.upto fnExactDropBoxSpec)

/-- 'laws.FnStoresGrow', WHERE WHAT IT READS IS OF BULK AT MOST 1048576: true; the input reads as it did. -/
def fnStoresGrowUptoRow : OpenClaim := { program := "ytcihgbflbmhkbaagreat", sum := "951ac2763fae3056645048f9a125a24b04cd1490d50aef492232b450ad061052", func := "loop.example/g00324/laws.FnStoresGrow", spec := "fnStoresGrow", unfollowed := true, recurses := true, apart := false, narrowed := true }
def FnStoresGrowUptoSaid : Prop := fnStoresGrowUptoRow.holds Tryz.pinned (OpenSpec.upto fnStoresGrowSpec)

/-- 'laws.FnCallsAll', WHERE WHAT IT READS IS OF BULK AT MOST 1048576: true; the input reads as it did. -/
def fnCallsAllUptoRow : OpenClaim := { program := "ytcihgbflbmhkbaagreat", sum := "951ac2763fae3056645048f9a125a24b04cd1490d50aef492232b450ad061052", func := "loop.example/g00324/laws.FnCallsAll", spec := "fnCallsAll", inPlace := ["slices.overlaps[loop.example/g00324/impl.Box]"], unfollowed := true, recurses := true, apart := false, narrowed := true }
def FnCallsAllUptoSaid : Prop := fnCallsAllUptoRow.holds Tryz.pinned (OpenSpec.upto fnCallsAllSpec)

/-- 'laws.FnCalls', WHERE WHAT IT READS IS OF BULK AT MOST 1048576: true; the input reads as it did. -/
def fnCallsUptoRow : OpenClaim := { program := "ytcihgbflbmhkbaagreat", sum := "951ac2763fae3056645048f9a125a24b04cd1490d50aef492232b450ad061052", func := "loop.example/g00324/laws.FnCalls", spec := "fnCalls", inPlace := ["slices.overlaps[loop.example/g00324/impl.Box]"], unfollowed := true, recurses := true, apart := false, narrowed := true }
def FnCallsUptoSaid : Prop := fnCallsUptoRow.holds Tryz.pinned (OpenSpec.upto fnCallsSpec)

end Rows
end Go.Proofs.YtcihgbflbmhkbaaGreat

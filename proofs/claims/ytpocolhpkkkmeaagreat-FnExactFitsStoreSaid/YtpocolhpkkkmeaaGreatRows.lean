/-
  No cell of these rows narrows 'for every input' (looked for: loops, veiled, ifaces, maps, wideKeys, modest, calm, conditions, laid).
  DERIVED. THE GIVEN ROWS OF THIS SEAT. 8 by the template 'for every input the law returns true; each argument reads behind the call as it read before'; 0 by the template 'total and deterministic' (their statements: YtpocolhpkkkmeaaGreatTotals.lean).
  GIVEN WITH THE SEED: the statements are not yours to turn. If you find one false, say at which input.
  Laid BY PROGRAM, IN A SANDBOX (cutbox-rows.mjs): the forced cells as the released guide's own fill.sh prints them over the translation ea5712c32c6c1ad9… (all of the seat's roots in one cut). By AI agents, Wed Nov 11 2026. No macro, syntax, notation, axiom, sorry.
-/
import Derived.Test.YtpocolhpkkkmeaaGreatChecked
import GoSem.Claim
import GoSem.ClaimJoined
import GoSem.ClaimMapViews
import Derived.JoinedTies
import Derived.KernelRfl
namespace Go.Proofs.YtpocolhpkkkmeaaGreat
/- THE CELL 'sum', in the pinned program and in every row, IS THE sha256 OF THE DUMP (.gsa) THAT YtpocolhpkkkmeaaGreatProg.lean LOADS. Nothing in Lean hashes anything: it is a label: what it is worth is what the hold of that sum in a sandbox is worth. -/
noncomputable def Tryz.pinned : Pinned := { name := "ytpocolhpkkkmeaagreat", sum := "ea5712c32c6c1ad9d10a6fa20ae32d3c5073f19ccae08033e19d254bc0e7e98c", checked := Tryz.checked }
namespace Rows
def none {H : Type} : Left H := { results := [], args := [] }

/-- 'laws.FnMailsKept': WHATEVER THE INPUT: true; the input reads as it did. -/
def fnMailsKeptSpec : ChangeSpec := { name := "fnMailsKept", fn := fun _ => fun
  | [d] => { results := [.lit (.bool true)], args := [d] }
  | _ => none }
def fnMailsKeptRow : OpenClaim := { program := "ytpocolhpkkkmeaagreat", sum := "ea5712c32c6c1ad9d10a6fa20ae32d3c5073f19ccae08033e19d254bc0e7e98c", func := "loop.example/g00324/laws.FnMailsKept", spec := "fnMailsKept", unfollowed := true, recurses := true, apart := false }
def FnMailsKeptSaid : Prop := fnMailsKeptRow.holds Tryz.pinned (OpenSpec.ofChange fnMailsKeptSpec)

/-- ITS FALSE NEIGHBOUR: 'it returns false'. Refute it at one input. -/
def fnMailsKeptWrong : ChangeSpec := { name := "fnMailsKept", fn := fun _ => fun
  | [d] => { results := [.lit (.bool false)], args := [d] }
  | _ => none }
def FnMailsKeptWrongFalsely : Prop := fnMailsKeptRow.holds Tryz.pinned (OpenSpec.ofChange fnMailsKeptWrong)

/-- 'laws.FnBoxesJoin': WHATEVER THE INPUT: true; the input reads as it did. -/
def fnBoxesJoinSpec : ChangeSpec := { name := "fnBoxesJoin", fn := fun _ => fun
  | [d] => { results := [.lit (.bool true)], args := [d] }
  | _ => none }
def fnBoxesJoinRow : OpenClaim := { program := "ytpocolhpkkkmeaagreat", sum := "ea5712c32c6c1ad9d10a6fa20ae32d3c5073f19ccae08033e19d254bc0e7e98c", func := "loop.example/g00324/laws.FnBoxesJoin", spec := "fnBoxesJoin", unfollowed := true, recurses := true, apart := false }
def FnBoxesJoinSaid : Prop := fnBoxesJoinRow.holds Tryz.pinned (OpenSpec.ofChange fnBoxesJoinSpec)

/-- ITS FALSE NEIGHBOUR: 'it returns false'. Refute it at one input. -/
def fnBoxesJoinWrong : ChangeSpec := { name := "fnBoxesJoin", fn := fun _ => fun
  | [d] => { results := [.lit (.bool false)], args := [d] }
  | _ => none }
def FnBoxesJoinWrongFalsely : Prop := fnBoxesJoinRow.holds Tryz.pinned (OpenSpec.ofChange fnBoxesJoinWrong)

/-- 'laws.FnStores': WHATEVER THE INPUT: true; the input reads as it did. -/
def fnStoresSpec : ChangeSpec := { name := "fnStores", fn := fun _ => fun
  | [d] => { results := [.lit (.bool true)], args := [d] }
  | _ => none }
def fnStoresRow : OpenClaim := { program := "ytpocolhpkkkmeaagreat", sum := "ea5712c32c6c1ad9d10a6fa20ae32d3c5073f19ccae08033e19d254bc0e7e98c", func := "loop.example/g00324/laws.FnStores", spec := "fnStores", inPlace := ["slices.overlaps[loop.example/g00324/impl.Box]"], unfollowed := true, recurses := true, apart := false }
def FnStoresSaid : Prop := fnStoresRow.holds Tryz.pinned (OpenSpec.ofChange fnStoresSpec)

/-- ITS FALSE NEIGHBOUR: 'it returns false'. Refute it at one input. -/
def fnStoresWrong : ChangeSpec := { name := "fnStores", fn := fun _ => fun
  | [d] => { results := [.lit (.bool false)], args := [d] }
  | _ => none }
def FnStoresWrongFalsely : Prop := fnStoresRow.holds Tryz.pinned (OpenSpec.ofChange fnStoresWrong)

/-- 'laws.FnUidsKept': WHATEVER THE INPUT: true; the input reads as it did. -/
def fnUidsKeptSpec : ChangeSpec := { name := "fnUidsKept", fn := fun _ => fun
  | [d] => { results := [.lit (.bool true)], args := [d] }
  | _ => none }
def fnUidsKeptRow : OpenClaim := { program := "ytpocolhpkkkmeaagreat", sum := "ea5712c32c6c1ad9d10a6fa20ae32d3c5073f19ccae08033e19d254bc0e7e98c", func := "loop.example/g00324/laws.FnUidsKept", spec := "fnUidsKept", unfollowed := true, recurses := true, apart := false }
def FnUidsKeptSaid : Prop := fnUidsKeptRow.holds Tryz.pinned (OpenSpec.ofChange fnUidsKeptSpec)

/-- ITS FALSE NEIGHBOUR: 'it returns false'. Refute it at one input. -/
def fnUidsKeptWrong : ChangeSpec := { name := "fnUidsKept", fn := fun _ => fun
  | [d] => { results := [.lit (.bool false)], args := [d] }
  | _ => none }
def FnUidsKeptWrongFalsely : Prop := fnUidsKeptRow.holds Tryz.pinned (OpenSpec.ofChange fnUidsKeptWrong)

/-- 'laws.FnTexts': WHATEVER THE INPUT: true; the input reads as it did. -/
def fnTextsSpec : ChangeSpec := { name := "fnTexts", fn := fun _ => fun
  | [d] => { results := [.lit (.bool true)], args := [d] }
  | _ => none }
def fnTextsRow : OpenClaim := { program := "ytpocolhpkkkmeaagreat", sum := "ea5712c32c6c1ad9d10a6fa20ae32d3c5073f19ccae08033e19d254bc0e7e98c", func := "loop.example/g00324/laws.FnTexts", spec := "fnTexts", unfollowed := true, recurses := true, apart := false }
def FnTextsSaid : Prop := fnTextsRow.holds Tryz.pinned (OpenSpec.ofChange fnTextsSpec)

/-- ITS FALSE NEIGHBOUR: 'it returns false'. Refute it at one input. -/
def fnTextsWrong : ChangeSpec := { name := "fnTexts", fn := fun _ => fun
  | [d] => { results := [.lit (.bool false)], args := [d] }
  | _ => none }
def FnTextsWrongFalsely : Prop := fnTextsRow.holds Tryz.pinned (OpenSpec.ofChange fnTextsWrong)

/-- 'laws.FnStoresTold': WHATEVER THE INPUT: true; the input reads as it did. -/
def fnStoresToldSpec : ChangeSpec := { name := "fnStoresTold", fn := fun _ => fun
  | [d] => { results := [.lit (.bool true)], args := [d] }
  | _ => none }
def fnStoresToldRow : OpenClaim := { program := "ytpocolhpkkkmeaagreat", sum := "ea5712c32c6c1ad9d10a6fa20ae32d3c5073f19ccae08033e19d254bc0e7e98c", func := "loop.example/g00324/laws.FnStoresTold", spec := "fnStoresTold", inPlace := ["slices.overlaps[loop.example/g00324/impl.Box]"], unfollowed := true, recurses := true, apart := false }
def FnStoresToldSaid : Prop := fnStoresToldRow.holds Tryz.pinned (OpenSpec.ofChange fnStoresToldSpec)

/-- ITS FALSE NEIGHBOUR: 'it returns false'. Refute it at one input. -/
def fnStoresToldWrong : ChangeSpec := { name := "fnStoresTold", fn := fun _ => fun
  | [d] => { results := [.lit (.bool false)], args := [d] }
  | _ => none }
def FnStoresToldWrongFalsely : Prop := fnStoresToldRow.holds Tryz.pinned (OpenSpec.ofChange fnStoresToldWrong)

/-- 'laws.FnExactFitsStore': WHATEVER THE INPUT: true; the input reads as it did. -/
def fnExactFitsStoreSpec : ChangeSpec := { name := "fnExactFitsStore", fn := fun _ => fun
  | [d1, d2] => { results := [.lit (.bool true)], args := [d1, d2] }
  | _ => none }
def fnExactFitsStoreRow : OpenClaim := { program := "ytpocolhpkkkmeaagreat", sum := "ea5712c32c6c1ad9d10a6fa20ae32d3c5073f19ccae08033e19d254bc0e7e98c", func := "loop.example/g00324/laws.FnExactFitsStore", spec := "fnExactFitsStore", unfollowed := true, recurses := true, apart := false }
def FnExactFitsStoreSaid : Prop := fnExactFitsStoreRow.holds Tryz.pinned (OpenSpec.ofChange fnExactFitsStoreSpec)

/-- ITS FALSE NEIGHBOUR: 'it returns false'. Refute it at one input. -/
def fnExactFitsStoreWrong : ChangeSpec := { name := "fnExactFitsStore", fn := fun _ => fun
  | [d1, d2] => { results := [.lit (.bool false)], args := [d1, d2] }
  | _ => none }
def FnExactFitsStoreWrongFalsely : Prop := fnExactFitsStoreRow.holds Tryz.pinned (OpenSpec.ofChange fnExactFitsStoreWrong)

/-- 'laws.FnExactKeptOk': WHATEVER THE INPUT: true; the input reads as it did. -/
def fnExactKeptOkSpec : ChangeSpec := { name := "fnExactKeptOk", fn := fun _ => fun
  | [d] => { results := [.lit (.bool true)], args := [d] }
  | _ => none }
def fnExactKeptOkRow : OpenClaim := { program := "ytpocolhpkkkmeaagreat", sum := "ea5712c32c6c1ad9d10a6fa20ae32d3c5073f19ccae08033e19d254bc0e7e98c", func := "loop.example/g00324/laws.FnExactKeptOk", spec := "fnExactKeptOk", inPlace := ["slices.overlaps[loop.example/g00324/impl.Box]"], unfollowed := true, recurses := true, apart := false }
def FnExactKeptOkSaid : Prop := fnExactKeptOkRow.holds Tryz.pinned (OpenSpec.ofChange fnExactKeptOkSpec)

/-- ITS FALSE NEIGHBOUR: 'it returns false'. Refute it at one input. -/
def fnExactKeptOkWrong : ChangeSpec := { name := "fnExactKeptOk", fn := fun _ => fun
  | [d] => { results := [.lit (.bool false)], args := [d] }
  | _ => none }
def FnExactKeptOkWrongFalsely : Prop := fnExactKeptOkRow.holds Tryz.pinned (OpenSpec.ofChange fnExactKeptOkWrong)

/- THE SECOND FORM. 'bulk': how many values and letters a reading holds, each counted each time it is reached (what is shared counts as often as it is met; a slice's spare places count too). A statement '..UptoSaid' is the law's where the arguments, and the package variables that the reading takes, are together of bulk at most 1048576: NARROWER than '..Said'. Prove '..Said' where nothing that the law and all that it calls make is longer than what came in: it says more and counts as full. Else prove '..UptoSaid'. A law counts once. -/
mutual
def uptoBulk {H : Type} : DataW H → Nat
  | .lit (.string bytes) => bytes.length + 1
  | .lit _ => 1
  | .nil => 1
  | .ptr d => uptoBulk d + 1
  | .slice elems spare => uptoBulkAll elems + uptoBulkAll spare + 1
  | .agg parts => uptoBulkAll parts + 1
  | .iface _ d => uptoBulk d + 1
  | .map entries => uptoBulkEntries entries + 1
  | .held _ => 1
def uptoBulkAll {H : Type} : List (DataW H) → Nat
  | [] => 0
  | d :: r => uptoBulk d + uptoBulkAll r
def uptoBulkEntries {H : Type} : List (Lit × DataW H) → Nat
  | [] => 0
  | x :: r => uptoBulkEntry x + uptoBulkEntries r
def uptoBulkEntry {H : Type} : Lit × DataW H → Nat
  | (.string bytes, d) => bytes.length + uptoBulk d + 1
  | (_, d) => uptoBulk d + 1
 end
def uptoSmall : (H : Type) → List (DataW H) → Bool := fun _ ds => decide (uptoBulkAll ds ≤ 1048576)
def OpenSpec.upto (s : _root_.Go.ChangeSpec) : _root_.Go.OpenSpec := { _root_.Go.OpenSpec.ofChange s with cond := some uptoSmall }

/-- 'laws.FnMailsKept', WHERE WHAT IT READS IS OF BULK AT MOST 1048576: true; the input reads as it did. -/
def fnMailsKeptUptoRow : OpenClaim := { program := "ytpocolhpkkkmeaagreat", sum := "ea5712c32c6c1ad9d10a6fa20ae32d3c5073f19ccae08033e19d254bc0e7e98c", func := "loop.example/g00324/laws.FnMailsKept", spec := "fnMailsKept", unfollowed := true, recurses := true, apart := false, narrowed := true }
def FnMailsKeptUptoSaid : Prop := fnMailsKeptUptoRow.holds Tryz.pinned (OpenSpec.upto fnMailsKeptSpec)

/-- 'laws.FnBoxesJoin', WHERE WHAT IT READS IS OF BULK AT MOST 1048576: true; the input reads as it did. -/
def fnBoxesJoinUptoRow : OpenClaim := { program := "ytpocolhpkkkmeaagreat", sum := "ea5712c32c6c1ad9d10a6fa20ae32d3c5073f19ccae08033e19d254bc0e7e98c", func := "loop.example/g00324/laws.FnBoxesJoin", spec := "fnBoxesJoin", unfollowed := true, recurses := true, apart := false, narrowed := true }
def FnBoxesJoinUptoSaid : Prop := fnBoxesJoinUptoRow.holds Tryz.pinned (OpenSpec.upto fnBoxesJoinSpec)

/-- 'laws.FnStores', WHERE WHAT IT READS IS OF BULK AT MOST 1048576: true; the input reads as it did. -/
def fnStoresUptoRow : OpenClaim := { program := "ytpocolhpkkkmeaagreat", sum := "ea5712c32c6c1ad9d10a6fa20ae32d3c5073f19ccae08033e19d254bc0e7e98c", func := "loop.example/g00324/laws.FnStores", spec := "fnStores", inPlace := ["slices.overlaps[loop.example/g00324/impl.Box]"], unfollowed := true, recurses := true, apart := false, narrowed := true }
def FnStoresUptoSaid : Prop := fnStoresUptoRow.holds Tryz.pinned (OpenSpec.upto fnStoresSpec)

/-- 'laws.FnUidsKept', WHERE WHAT IT READS IS OF BULK AT MOST 1048576: true; the input reads as it did. -/
def fnUidsKeptUptoRow : OpenClaim := { program := "ytpocolhpkkkmeaagreat", sum := "ea5712c32c6c1ad9d10a6fa20ae32d3c5073f19ccae08033e19d254bc0e7e98c", func := "loop.example/g00324/laws.FnUidsKept", spec := "fnUidsKept", unfollowed := true, recurses := true, apart := false, narrowed := true }
def FnUidsKeptUptoSaid : Prop := fnUidsKeptUptoRow.holds Tryz.pinned (OpenSpec.upto fnUidsKeptSpec)

/-- 'laws.FnTexts', WHERE WHAT IT READS IS OF BULK AT MOST 1048576: true; the input reads as it did. -/
def fnTextsUptoRow : OpenClaim := { program := "ytpocolhpkkkmeaagreat", sum := "ea5712c32c6c1ad9d10a6fa20ae32d3c5073f19ccae08033e19d254bc0e7e98c", func := "loop.example/g00324/laws.FnTexts", spec := "fnTexts", unfollowed := true, recurses := true, apart := false, narrowed := true }
def FnTextsUptoSaid : Prop := fnTextsUptoRow.holds Tryz.pinned (OpenSpec.upto fnTextsSpec)

/-- 'laws.FnStoresTold', WHERE WHAT IT READS IS OF BULK AT MOST 1048576: true; the input reads as it did. -/
def fnStoresToldUptoRow : OpenClaim := { program := "ytpocolhpkkkmeaagreat", sum := "ea5712c32c6c1ad9d10a6fa20ae32d3c5073f19ccae08033e19d254bc0e7e98c", func := "loop.example/g00324/laws.FnStoresTold", spec := "fnStoresTold", inPlace := ["slices.overlaps[loop.example/g00324/impl.Box]"], unfollowed := true, recurses := true, apart := false, narrowed := true }
def FnStoresToldUptoSaid : Prop := fnStoresToldUptoRow.holds Tryz.pinned (OpenSpec.upto fnStoresToldSpec)

/-- 'laws.FnExactFitsStore', WHERE WHAT IT READS IS OF BULK AT MOST 1048576: true; the input reads as it did. -/
def fnExactFitsStoreUptoRow : OpenClaim := { program := "ytpocolhpkkkmeaagreat", sum := "ea5712c32c6c1ad9d10a6fa20ae32d3c5073f19ccae08033e19d254bc0e7e98c", func := "loop.example/g00324/laws.FnExactFitsStore", spec := "fnExactFitsStore", unfollowed := true, recurses := true, apart := false, narrowed := true }
def FnExactFitsStoreUptoSaid : Prop := fnExactFitsStoreUptoRow.holds Tryz.pinned (OpenSpec.upto fnExactFitsStoreSpec)

/-- 'laws.FnExactKeptOk', WHERE WHAT IT READS IS OF BULK AT MOST 1048576: true; the input reads as it did. -/
def fnExactKeptOkUptoRow : OpenClaim := { program := "ytpocolhpkkkmeaagreat", sum := "ea5712c32c6c1ad9d10a6fa20ae32d3c5073f19ccae08033e19d254bc0e7e98c", func := "loop.example/g00324/laws.FnExactKeptOk", spec := "fnExactKeptOk", inPlace := ["slices.overlaps[loop.example/g00324/impl.Box]"], unfollowed := true, recurses := true, apart := false, narrowed := true }
def FnExactKeptOkUptoSaid : Prop := fnExactKeptOkUptoRow.holds Tryz.pinned (OpenSpec.upto fnExactKeptOkSpec)

end Rows
end Go.Proofs.YtpocolhpkkkmeaaGreat

/-
  No cell of these rows narrows 'for every input' (looked for: loops, veiled, ifaces, maps, wideKeys, modest, calm, conditions, laid).
  DERIVED. THE GIVEN ROWS OF THIS SEAT. 3 by the template 'for every input the law returns true; each argument reads behind the call as it read before'; 0 by the template 'total and deterministic' (their statements: YtfibgklkcjpmgaaGreatTotals.lean).
  GIVEN WITH THE SEED: the statements are not yours to turn. If you find one false, say at which input.
  Laid BY PROGRAM, IN A SANDBOX (cutbox-rows.mjs): the forced cells as the released guide's own fill.sh prints them over the translation 430e2c820599d929… (all of the seat's roots in one cut). By AI agents, Wed Nov 11 2026. No macro, syntax, notation, axiom, sorry.
-/
import Derived.Test.YtfibgklkcjpmgaaGreatChecked
import GoSem.Claim
import GoSem.ClaimJoined
import GoSem.ClaimMapViews
import Derived.JoinedTies
import Derived.KernelRfl
namespace Go.Proofs.YtfibgklkcjpmgaaGreat
/- THE CELL 'sum', in the pinned program and in every row, IS THE sha256 OF THE DUMP (.gsa) THAT YtfibgklkcjpmgaaGreatProg.lean LOADS. Nothing in Lean hashes anything: it is a label: what it is worth is what the hold of that sum in a sandbox is worth. -/
noncomputable def Tryz.pinned : Pinned := { name := "ytfibgklkcjpmgaagreat", sum := "430e2c820599d92908f6b9c7fedb17bc12d7df13d202f75d86439b1a23ac8593", checked := Tryz.checked }
namespace Rows
def none {H : Type} : Left H := { results := [], args := [] }

/-- 'laws.FnTexts': WHATEVER THE INPUT: true; the input reads as it did. -/
def fnTextsSpec : ChangeSpec := { name := "fnTexts", fn := fun _ => fun
  | [d] => { results := [.lit (.bool true)], args := [d] }
  | _ => none }
def fnTextsRow : OpenClaim := { program := "ytfibgklkcjpmgaagreat", sum := "430e2c820599d92908f6b9c7fedb17bc12d7df13d202f75d86439b1a23ac8593", func := "loop.example/g00324/laws.FnTexts", spec := "fnTexts", unfollowed := true, recurses := true, apart := false }
def FnTextsSaid : Prop := fnTextsRow.holds Tryz.pinned (OpenSpec.ofChange fnTextsSpec)

/-- ITS FALSE NEIGHBOUR: 'it returns false'. Refute it at one input. -/
def fnTextsWrong : ChangeSpec := { name := "fnTexts", fn := fun _ => fun
  | [d] => { results := [.lit (.bool false)], args := [d] }
  | _ => none }
def FnTextsWrongFalsely : Prop := fnTextsRow.holds Tryz.pinned (OpenSpec.ofChange fnTextsWrong)

/-- 'laws.FnStores': WHATEVER THE INPUT: true; the input reads as it did. -/
def fnStoresSpec : ChangeSpec := { name := "fnStores", fn := fun _ => fun
  | [d] => { results := [.lit (.bool true)], args := [d] }
  | _ => none }
def fnStoresRow : OpenClaim := { program := "ytfibgklkcjpmgaagreat", sum := "430e2c820599d92908f6b9c7fedb17bc12d7df13d202f75d86439b1a23ac8593", func := "loop.example/g00324/laws.FnStores", spec := "fnStores", inPlace := ["slices.overlaps[loop.example/g00324/impl.Box]"], unfollowed := true, recurses := true, apart := false }
def FnStoresSaid : Prop := fnStoresRow.holds Tryz.pinned (OpenSpec.ofChange fnStoresSpec)

/-- ITS FALSE NEIGHBOUR: 'it returns false'. Refute it at one input. -/
def fnStoresWrong : ChangeSpec := { name := "fnStores", fn := fun _ => fun
  | [d] => { results := [.lit (.bool false)], args := [d] }
  | _ => none }
def FnStoresWrongFalsely : Prop := fnStoresRow.holds Tryz.pinned (OpenSpec.ofChange fnStoresWrong)

/-- 'laws.FnStoresTold': WHATEVER THE INPUT: true; the input reads as it did. -/
def fnStoresToldSpec : ChangeSpec := { name := "fnStoresTold", fn := fun _ => fun
  | [d] => { results := [.lit (.bool true)], args := [d] }
  | _ => none }
def fnStoresToldRow : OpenClaim := { program := "ytfibgklkcjpmgaagreat", sum := "430e2c820599d92908f6b9c7fedb17bc12d7df13d202f75d86439b1a23ac8593", func := "loop.example/g00324/laws.FnStoresTold", spec := "fnStoresTold", inPlace := ["slices.overlaps[loop.example/g00324/impl.Box]"], unfollowed := true, recurses := true, apart := false }
def FnStoresToldSaid : Prop := fnStoresToldRow.holds Tryz.pinned (OpenSpec.ofChange fnStoresToldSpec)

/-- ITS FALSE NEIGHBOUR: 'it returns false'. Refute it at one input. -/
def fnStoresToldWrong : ChangeSpec := { name := "fnStoresTold", fn := fun _ => fun
  | [d] => { results := [.lit (.bool false)], args := [d] }
  | _ => none }
def FnStoresToldWrongFalsely : Prop := fnStoresToldRow.holds Tryz.pinned (OpenSpec.ofChange fnStoresToldWrong)

/- THE SECOND FORM. 'bulk': how many values and letters a reading holds, each counted each time it is reached (what is shared counts as often as it is met; a slice's spare places count too). A statement '..UptoSaid' is the law's where the arguments, and the package variables that the reading takes, are together of bulk at most 1048576: NARROWER than '..Said'. Prove '..Said' where nothing that the law and all that it calls make is longer than what came in: it says more and counts as full. Else prove '..UptoSaid'. A law counts once. -/
mutual
def uptoBulk {H : Type} : DataW H → Nat
  | .lit (.string bytes) => bytes.length + 1
  | .lit _ => 1
  | .nil => 1
  | .ptr d => uptoBulk d + 1
  | .slice elems spare => uptoBulkAll elems + uptoBulkAll spare + 1
  | .agg parts => uptoBulkAll parts + 1
  | .iface _ d => uptoBulk d + 1
  | .map entries => uptoBulkEntries entries + 1
  | .held _ => 1
def uptoBulkAll {H : Type} : List (DataW H) → Nat
  | [] => 0
  | d :: r => uptoBulk d + uptoBulkAll r
def uptoBulkEntries {H : Type} : List (Lit × DataW H) → Nat
  | [] => 0
  | x :: r => uptoBulkEntry x + uptoBulkEntries r
def uptoBulkEntry {H : Type} : Lit × DataW H → Nat
  | (.string bytes, d) => bytes.length + uptoBulk d + 1
  | (_, d) => uptoBulk d + 1
 end
def uptoSmall : (H : Type) → List (DataW H) → Bool := fun _ ds => decide (uptoBulkAll ds ≤ 1048576)
def OpenSpec.upto (s : _root_.Go.ChangeSpec) : _root_.Go.OpenSpec := { _root_.Go.OpenSpec.ofChange s with cond := some uptoSmall }

/-- 'laws.FnTexts', WHERE WHAT IT READS IS OF BULK AT MOST 1048576: true; the input reads as it did. -/
def fnTextsUptoRow : OpenClaim := { program := "ytfibgklkcjpmgaagreat", sum := "430e2c820599d92908f6b9c7fedb17bc12d7df13d202f75d86439b1a23ac8593", func := "loop.example/g00324/laws.FnTexts", spec := "fnTexts", unfollowed := true, recurses := true, apart := false, narrowed := true }
def FnTextsUptoSaid : Prop := fnTextsUptoRow.holds Tryz.pinned (OpenSpec.upto fnTextsSpec)

/-- 'laws.FnStores', WHERE WHAT IT READS IS OF BULK AT MOST 1048576: true; the input reads as it did. -/
def fnStoresUptoRow : OpenClaim := { program := "ytfibgklkcjpmgaagreat", sum := "430e2c820599d92908f6b9c7fedb17bc12d7df13d202f75d86439b1a23ac8593", func := "loop.example/g00324/laws.FnStores", spec := "fnStores", inPlace := ["slices.overlaps[loop.example/g00324/impl.Box]"], unfollowed := true, recurses := true, apart := false, narrowed := true }
def FnStoresUptoSaid : Prop := fnStoresUptoRow.holds Tryz.pinned (OpenSpec.upto fnStoresSpec)

/-- 'laws.FnStoresTold', WHERE WHAT IT READS IS OF BULK AT MOST 1048576: true; the input reads as it did. -/
def fnStoresToldUptoRow : OpenClaim := { program := "ytfibgklkcjpmgaagreat", sum := "430e2c820599d92908f6b9c7fedb17bc12d7df13d202f75d86439b1a23ac8593", func := "loop.example/g00324/laws.FnStoresTold", spec := "fnStoresTold", inPlace := ["slices.overlaps[loop.example/g00324/impl.Box]"], unfollowed := true, recurses := true, apart := false, narrowed := true }
def FnStoresToldUptoSaid : Prop := fnStoresToldUptoRow.holds Tryz.pinned (OpenSpec.upto fnStoresToldSpec)

end Rows
end Go.Proofs.YtfibgklkcjpmgaaGreat

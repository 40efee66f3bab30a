/-
  DERIVED. GIVEN WITH THE SEED: THE CARDS: each row of YtolaaohibicllaaDoorRows.lean that lists a variable, with what it lists TIED to the program's text (the seventh form; the later family's looks); each row that meets fmt, with fmt's text TOLD by the authors' own Lean function (tested against real Go, not proved from fmt's source: count such statements apart). THE CARD IS WHAT COUNTS. Prove the row's statement (the work); the ties are given (YtolaaohibicllaaDoorTie.lean); close each card by the builder's one call (the guide's Derived/Test/ToyasCard.lean, 'card_holds'). Laid BY PROGRAM, IN A SANDBOX (cutbox-door.mjs). By AI agents, Wed Nov 11 2026. No macro, syntax, notation, axiom, sorry.
-/
import Derived.Test.YtolaaohibicllaaDoorRows
import GoSem.ClaimSeven
namespace Go.Proofs.YtolaaohibicllaaDoor
namespace Rows

/-- THE TIED CARD OF 'laws.FnExactReadSet'. -/
def fnExactReadSetCard : Claim7 := { stood := { row := fnExactReadSetRow, standIns := [], harness := (true, "3966cb27f24d3de90a4594273b06313392e0b5bcb6bcc868978a2af08b8ae581"), looks := false }, kinds := [], alts := [], laidByText := true, laidKinds := [.data, .pinned], laidTests := true, laidLooks := .later }
def FnExactReadSetCardSaid : Prop := Claim7.holds Tryd.pinned (.plain (OpenSpec.ofChange fnExactReadSetSpec)) fnExactReadSetCard

/-- THE SECOND FORM's CARD OF 'laws.FnExactReadSet'. -/
def fnExactReadSetUptoCard : Claim7 := { stood := { row := fnExactReadSetUptoRow, standIns := [], harness := (true, "3966cb27f24d3de90a4594273b06313392e0b5bcb6bcc868978a2af08b8ae581"), looks := false }, kinds := [], alts := [], laidByText := true, laidKinds := [.data, .pinned], laidTests := true, laidLooks := .later }
def FnExactReadSetUptoCardSaid : Prop := Claim7.holds Tryd.pinned (.plain (OpenSpec.upto fnExactReadSetSpec)) fnExactReadSetUptoCard
end Rows
end Go.Proofs.YtolaaohibicllaaDoor

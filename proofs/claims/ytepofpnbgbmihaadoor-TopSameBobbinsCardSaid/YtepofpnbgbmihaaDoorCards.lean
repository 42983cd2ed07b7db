/-
  DERIVED. GIVEN WITH THE SEED: THE CARDS: each row of YtepofpnbgbmihaaDoorRows.lean that lists a variable, with what it lists TIED to the program's text (the seventh form; the later family's looks); each row that meets fmt, with fmt's text TOLD by the authors' own Lean function (tested against real Go, not proved from fmt's source: count such statements apart). THE CARD IS WHAT COUNTS. Prove the row's statement (the work); the ties are given (YtepofpnbgbmihaaDoorTie.lean); close each card by the builder's one call (the guide's Derived/Test/ToyasCard.lean, 'card_holds'). Laid BY PROGRAM, IN A SANDBOX (cutbox-door.mjs). By AI agents, Wed Nov 11 2026. No macro, syntax, notation, axiom, sorry.
-/
import Derived.Test.YtepofpnbgbmihaaDoorRows
import GoSem.ClaimSeven
namespace Go.Proofs.YtepofpnbgbmihaaDoor
namespace Rows

/-- THE TIED CARD OF 'torchontop.TopSameBobbins'. -/
def topSameBobbinsCard : Claim7 := { stood := { row := topSameBobbinsRow, standIns := [], harness := (true, "82e556492a4f6174c4c6820b21a46a24acd933456adea9d8329174efba470ef9"), looks := false }, kinds := [], alts := [], laidByText := true, laidKinds := [.data, .data], laidTests := true, laidLooks := .later }
def TopSameBobbinsCardSaid : Prop := Claim7.holds Tryd.pinned (.plain (OpenSpec.ofChange topSameBobbinsSpec)) topSameBobbinsCard

/-- THE SECOND FORM's CARD OF 'torchontop.TopSameBobbins'. -/
def topSameBobbinsUptoCard : Claim7 := { stood := { row := topSameBobbinsUptoRow, standIns := [], harness := (true, "82e556492a4f6174c4c6820b21a46a24acd933456adea9d8329174efba470ef9"), looks := false }, kinds := [], alts := [], laidByText := true, laidKinds := [.data, .data], laidTests := true, laidLooks := .later }
def TopSameBobbinsUptoCardSaid : Prop := Claim7.holds Tryd.pinned (.plain (OpenSpec.upto topSameBobbinsSpec)) topSameBobbinsUptoCard
end Rows
end Go.Proofs.YtepofpnbgbmihaaDoor

/-
  DERIVED. GIVEN WITH THE SEED: THE CARDS: each row of YtjgbnaihpicpgaaGreatDoorRows.lean that lists a variable, with what it lists TIED to the program's text (the seventh form; the later family's looks); each row that meets fmt, with fmt's text TOLD by the authors' own Lean function (tested against real Go, not proved from fmt's source: count such statements apart). THE CARD IS WHAT COUNTS. Prove the row's statement (the work); the ties are given (YtjgbnaihpicpgaaGreatDoorTie.lean); close each card by the builder's one call (the guide's Derived/Test/ToyasCard.lean, 'card_holds'). Laid BY PROGRAM, IN A SANDBOX (cutbox-door.mjs). By AI agents, Wed Nov 11 2026. No macro, syntax, notation, axiom, sorry.
-/
import Derived.Test.YtjgbnaihpicpgaaGreatDoorRows
import GoSem.ClaimSeven
namespace Go.Proofs.YtjgbnaihpicpgaaGreatDoor
namespace Rows

/-- THE TIED CARD OF 'laws.FnExactJoinsAll'. -/
def fnExactJoinsAllCard : Claim7 := { stood := { row := fnExactJoinsAllRow, standIns := [], harness := (true, "d6fc7a35fddff3e95a016bd5187a3ad8a80d6d38d121a4f880bf7a7674c13846"), looks := true }, kinds := [], alts := [], laidByText := true, laidKinds := [.sentinel], laidTests := true, laidLooks := .later }
def FnExactJoinsAllCardSaid : Prop := Claim7.holds Tryz.pinned (.plain (OpenSpec.ofChange fnExactJoinsAllSpec)) fnExactJoinsAllCard

/-- THE TIED CARD OF 'laws.FnJoinedPeaks'. -/
def fnJoinedPeaksCard : Claim7 := { stood := { row := fnJoinedPeaksRow, standIns := [], harness := (true, "d6fc7a35fddff3e95a016bd5187a3ad8a80d6d38d121a4f880bf7a7674c13846"), looks := true }, kinds := [], alts := [], laidByText := true, laidKinds := [.sentinel], laidTests := true, laidLooks := .later }
def FnJoinedPeaksCardSaid : Prop := Claim7.holds Tryz.pinned (.plain (OpenSpec.ofChange fnJoinedPeaksSpec)) fnJoinedPeaksCard

/-- THE TIED CARD OF 'laws.FnExactUnjoinedOf'. -/
def fnExactUnjoinedOfCard : Claim7 := { stood := { row := fnExactUnjoinedOfRow, standIns := [], harness := (true, "d6fc7a35fddff3e95a016bd5187a3ad8a80d6d38d121a4f880bf7a7674c13846"), looks := true }, kinds := [], alts := [], laidByText := true, laidKinds := [.sentinel], laidTests := true, laidLooks := .later }
def FnExactUnjoinedOfCardSaid : Prop := Claim7.holds Tryz.pinned (.plain (OpenSpec.ofChange fnExactUnjoinedOfSpec)) fnExactUnjoinedOfCard

/-- THE SECOND FORM's CARD OF 'laws.FnExactJoinsAll'. -/
def fnExactJoinsAllUptoCard : Claim7 := { stood := { row := fnExactJoinsAllUptoRow, standIns := [], harness := (true, "d6fc7a35fddff3e95a016bd5187a3ad8a80d6d38d121a4f880bf7a7674c13846"), looks := true }, kinds := [], alts := [], laidByText := true, laidKinds := [.sentinel], laidTests := true, laidLooks := .later }
def FnExactJoinsAllUptoCardSaid : Prop := Claim7.holds Tryz.pinned (.plain (OpenSpec.upto fnExactJoinsAllSpec)) fnExactJoinsAllUptoCard

/-- THE SECOND FORM's CARD OF 'laws.FnJoinedPeaks'. -/
def fnJoinedPeaksUptoCard : Claim7 := { stood := { row := fnJoinedPeaksUptoRow, standIns := [], harness := (true, "d6fc7a35fddff3e95a016bd5187a3ad8a80d6d38d121a4f880bf7a7674c13846"), looks := true }, kinds := [], alts := [], laidByText := true, laidKinds := [.sentinel], laidTests := true, laidLooks := .later }
def FnJoinedPeaksUptoCardSaid : Prop := Claim7.holds Tryz.pinned (.plain (OpenSpec.upto fnJoinedPeaksSpec)) fnJoinedPeaksUptoCard

/-- THE SECOND FORM's CARD OF 'laws.FnExactUnjoinedOf'. -/
def fnExactUnjoinedOfUptoCard : Claim7 := { stood := { row := fnExactUnjoinedOfUptoRow, standIns := [], harness := (true, "d6fc7a35fddff3e95a016bd5187a3ad8a80d6d38d121a4f880bf7a7674c13846"), looks := true }, kinds := [], alts := [], laidByText := true, laidKinds := [.sentinel], laidTests := true, laidLooks := .later }
def FnExactUnjoinedOfUptoCardSaid : Prop := Claim7.holds Tryz.pinned (.plain (OpenSpec.upto fnExactUnjoinedOfSpec)) fnExactUnjoinedOfUptoCard
end Rows
end Go.Proofs.YtjgbnaihpicpgaaGreatDoor

/-
  DERIVED. GIVEN WITH THE SEED: THE CARDS: each row of YtcbfefbocpikoaaGreatDoorRows.lean that lists a variable, with what it lists TIED to the program's text (the seventh form; the later family's looks); each row that meets fmt, with fmt's text TOLD by the authors' own Lean function (tested against real Go, not proved from fmt's source: count such statements apart). THE CARD IS WHAT COUNTS. Prove the row's statement (the work); the ties are given (YtcbfefbocpikoaaGreatDoorTie.lean); close each card by the builder's one call (the guide's Derived/Test/ToyasCard.lean, 'card_holds'). Laid BY PROGRAM, IN A SANDBOX (cutbox-door.mjs). By AI agents, Wed Nov 11 2026. No macro, syntax, notation, axiom, sorry.
-/
import Derived.Test.YtcbfefbocpikoaaGreatDoorRows
import GoSem.ClaimSeven
namespace Go.Proofs.YtcbfefbocpikoaaGreatDoor
namespace Rows

/-- THE TIED CARD OF 'laws.FnExactTheoryEqual'. -/
def fnExactTheoryEqualCard : Claim7 := { stood := { row := fnExactTheoryEqualRow, standIns := [], harness := (true, "57554c233e6e7d026573dd648dd6310ab09714453b12562d677d7607117d37ef"), looks := false }, kinds := [], alts := [], laidByText := true, laidKinds := [.data, .data, .data], laidTests := true, laidLooks := .later }
def FnExactTheoryEqualCardSaid : Prop := Claim7.holds Tryz.pinned (.plain (OpenSpec.ofChange fnExactTheoryEqualSpec)) fnExactTheoryEqualCard

/-- THE TIED CARD OF 'laws.FnExactTheoryHolds'. -/
def fnExactTheoryHoldsCard : Claim7 := { stood := { row := fnExactTheoryHoldsRow, standIns := [], harness := (true, "57554c233e6e7d026573dd648dd6310ab09714453b12562d677d7607117d37ef"), looks := false }, kinds := [], alts := [], laidByText := true, laidKinds := [.data, .data, .data], laidTests := true, laidLooks := .later }
def FnExactTheoryHoldsCardSaid : Prop := Claim7.holds Tryz.pinned (.plain (OpenSpec.ofChange fnExactTheoryHoldsSpec)) fnExactTheoryHoldsCard

/-- THE SECOND FORM's CARD OF 'laws.FnExactTheoryEqual'. -/
def fnExactTheoryEqualUptoCard : Claim7 := { stood := { row := fnExactTheoryEqualUptoRow, standIns := [], harness := (true, "57554c233e6e7d026573dd648dd6310ab09714453b12562d677d7607117d37ef"), looks := false }, kinds := [], alts := [], laidByText := true, laidKinds := [.data, .data, .data], laidTests := true, laidLooks := .later }
def FnExactTheoryEqualUptoCardSaid : Prop := Claim7.holds Tryz.pinned (.plain (OpenSpec.upto fnExactTheoryEqualSpec)) fnExactTheoryEqualUptoCard

/-- THE SECOND FORM's CARD OF 'laws.FnExactTheoryHolds'. -/
def fnExactTheoryHoldsUptoCard : Claim7 := { stood := { row := fnExactTheoryHoldsUptoRow, standIns := [], harness := (true, "57554c233e6e7d026573dd648dd6310ab09714453b12562d677d7607117d37ef"), looks := false }, kinds := [], alts := [], laidByText := true, laidKinds := [.data, .data, .data], laidTests := true, laidLooks := .later }
def FnExactTheoryHoldsUptoCardSaid : Prop := Claim7.holds Tryz.pinned (.plain (OpenSpec.upto fnExactTheoryHoldsSpec)) fnExactTheoryHoldsUptoCard
end Rows
end Go.Proofs.YtcbfefbocpikoaaGreatDoor

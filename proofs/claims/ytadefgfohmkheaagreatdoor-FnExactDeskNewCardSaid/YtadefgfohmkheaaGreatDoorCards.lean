/-
  DERIVED. GIVEN WITH THE SEED: THE CARDS: each row of YtadefgfohmkheaaGreatDoorRows.lean that lists a variable, with what it lists TIED to the program's text (the seventh form; the later family's looks); each row that meets fmt, with fmt's text TOLD by the authors' own Lean function (tested against real Go, not proved from fmt's source: count such statements apart). THE CARD IS WHAT COUNTS. Prove the row's statement (the work); the ties are given (YtadefgfohmkheaaGreatDoorTie.lean); close each card by the builder's one call (the guide's Derived/Test/ToyasCard.lean, 'card_holds'). Laid BY PROGRAM, IN A SANDBOX (cutbox-door.mjs). By AI agents, Wed Nov 11 2026. No macro, syntax, notation, axiom, sorry.
-/
import Derived.Test.YtadefgfohmkheaaGreatDoorRows
import GoSem.ClaimSeven
namespace Go.Proofs.YtadefgfohmkheaaGreatDoor
namespace Rows

/-- THE TIED CARD OF 'laws.FnExactDeskNew'. -/
def fnExactDeskNewCard : Claim7 := { stood := { row := fnExactDeskNewRow, standIns := [], harness := (true, "9a262ade3e336050c1fa66a2657d0eccf54e2e148e9f8e6c1d389d01126a76a9"), looks := true }, kinds := [], alts := [], laidByText := true, laidKinds := [.data, .data, .data, .data, .sentinel, .sentinel, .sentinel, .sentinel, .sentinel, .pinned], laidTests := true, laidLooks := .later }
def FnExactDeskNewCardSaid : Prop := Claim7.holds Tryz.pinned (.plain (OpenSpec.ofChange fnExactDeskNewSpec)) fnExactDeskNewCard

/-- THE SECOND FORM's CARD OF 'laws.FnExactDeskNew'. -/
def fnExactDeskNewUptoCard : Claim7 := { stood := { row := fnExactDeskNewUptoRow, standIns := [], harness := (true, "9a262ade3e336050c1fa66a2657d0eccf54e2e148e9f8e6c1d389d01126a76a9"), looks := true }, kinds := [], alts := [], laidByText := true, laidKinds := [.data, .data, .data, .data, .sentinel, .sentinel, .sentinel, .sentinel, .sentinel, .pinned], laidTests := true, laidLooks := .later }
def FnExactDeskNewUptoCardSaid : Prop := Claim7.holds Tryz.pinned (.plain (OpenSpec.upto fnExactDeskNewSpec)) fnExactDeskNewUptoCard
end Rows
end Go.Proofs.YtadefgfohmkheaaGreatDoor

/-
  DERIVED. GIVEN WITH THE SEED: THE CARDS: each row of YtjlaccjneaomgaaGreatDoorRows.lean that lists a variable, with what it lists TIED to the program's text (the seventh form; the later family's looks); each row that meets fmt, with fmt's text TOLD by the authors' own Lean function (tested against real Go, not proved from fmt's source: count such statements apart). THE CARD IS WHAT COUNTS. Prove the row's statement (the work); the ties are given (YtjlaccjneaomgaaGreatDoorTie.lean); close each card by the builder's one call (the guide's Derived/Test/ToyasCard.lean, 'card_holds'). Laid BY PROGRAM, IN A SANDBOX (cutbox-door.mjs). By AI agents, Wed Nov 11 2026. No macro, syntax, notation, axiom, sorry.
-/
import Derived.Test.YtjlaccjneaomgaaGreatDoorRows
import GoSem.ClaimSeven
namespace Go.Proofs.YtjlaccjneaomgaaGreatDoor
namespace Rows

/-- THE TIED CARD OF 'firkinlaw34.MarkNames'. -/
def markNamesCard : Claim7 := { stood := { row := markNamesRow, standIns := [], harness := (true, "a42c78feb7595a484fa6565fd413121a7e15a39eb95baab0f327be1df79cd5bc"), looks := true }, kinds := [], alts := [], laidByText := true, laidKinds := [.data, .data, .data, .data, .sentinel, .sentinel, .pinned], laidTests := true, laidLooks := .later }
def MarkNamesCardSaid : Prop := Claim7.holds Tryz.pinned (.plain (OpenSpec.ofChange markNamesSpec)) markNamesCard

/-- THE TIED CARD OF 'firkinlaw34.MarkNil'. -/
def markNilCard : Claim7 := { stood := { row := markNilRow, standIns := [], harness := (true, "a42c78feb7595a484fa6565fd413121a7e15a39eb95baab0f327be1df79cd5bc"), looks := true }, kinds := [], alts := [], laidByText := true, laidKinds := [.data, .data, .data, .data, .sentinel, .sentinel, .pinned], laidTests := true, laidLooks := .later }
def MarkNilCardSaid : Prop := Claim7.holds Tryz.pinned (.plain (OpenSpec.ofChange markNilSpec)) markNilCard

/-- THE TIED CARD OF 'firkinlaw34.MarkOne'. -/
def markOneCard : Claim7 := { stood := { row := markOneRow, standIns := [], harness := (true, "a42c78feb7595a484fa6565fd413121a7e15a39eb95baab0f327be1df79cd5bc"), looks := true }, kinds := [], alts := [], laidByText := true, laidKinds := [.data, .data, .data, .data, .sentinel, .sentinel, .pinned], laidTests := true, laidLooks := .later }
def MarkOneCardSaid : Prop := Claim7.holds Tryz.pinned (.plain (OpenSpec.ofChange markOneSpec)) markOneCard

/-- THE TIED CARD OF 'firkinlaw34.MarkDoes'. -/
def markDoesCard : Claim7 := { stood := { row := markDoesRow, standIns := [], harness := (true, "a42c78feb7595a484fa6565fd413121a7e15a39eb95baab0f327be1df79cd5bc"), looks := true }, kinds := [], alts := [], laidByText := true, laidKinds := [.data, .data, .data, .data, .sentinel, .sentinel, .pinned], laidTests := true, laidLooks := .later }
def MarkDoesCardSaid : Prop := Claim7.holds Tryz.pinned (.plain (OpenSpec.ofChange markDoesSpec)) markDoesCard

/-- THE SECOND FORM's CARD OF 'firkinlaw34.MarkNames'. -/
def markNamesUptoCard : Claim7 := { stood := { row := markNamesUptoRow, standIns := [], harness := (true, "a42c78feb7595a484fa6565fd413121a7e15a39eb95baab0f327be1df79cd5bc"), looks := true }, kinds := [], alts := [], laidByText := true, laidKinds := [.data, .data, .data, .data, .sentinel, .sentinel, .pinned], laidTests := true, laidLooks := .later }
def MarkNamesUptoCardSaid : Prop := Claim7.holds Tryz.pinned (.plain (OpenSpec.upto markNamesSpec)) markNamesUptoCard

/-- THE SECOND FORM's CARD OF 'firkinlaw34.MarkNil'. -/
def markNilUptoCard : Claim7 := { stood := { row := markNilUptoRow, standIns := [], harness := (true, "a42c78feb7595a484fa6565fd413121a7e15a39eb95baab0f327be1df79cd5bc"), looks := true }, kinds := [], alts := [], laidByText := true, laidKinds := [.data, .data, .data, .data, .sentinel, .sentinel, .pinned], laidTests := true, laidLooks := .later }
def MarkNilUptoCardSaid : Prop := Claim7.holds Tryz.pinned (.plain (OpenSpec.upto markNilSpec)) markNilUptoCard

/-- THE SECOND FORM's CARD OF 'firkinlaw34.MarkOne'. -/
def markOneUptoCard : Claim7 := { stood := { row := markOneUptoRow, standIns := [], harness := (true, "a42c78feb7595a484fa6565fd413121a7e15a39eb95baab0f327be1df79cd5bc"), looks := true }, kinds := [], alts := [], laidByText := true, laidKinds := [.data, .data, .data, .data, .sentinel, .sentinel, .pinned], laidTests := true, laidLooks := .later }
def MarkOneUptoCardSaid : Prop := Claim7.holds Tryz.pinned (.plain (OpenSpec.upto markOneSpec)) markOneUptoCard

/-- THE SECOND FORM's CARD OF 'firkinlaw34.MarkDoes'. -/
def markDoesUptoCard : Claim7 := { stood := { row := markDoesUptoRow, standIns := [], harness := (true, "a42c78feb7595a484fa6565fd413121a7e15a39eb95baab0f327be1df79cd5bc"), looks := true }, kinds := [], alts := [], laidByText := true, laidKinds := [.data, .data, .data, .data, .sentinel, .sentinel, .pinned], laidTests := true, laidLooks := .later }
def MarkDoesUptoCardSaid : Prop := Claim7.holds Tryz.pinned (.plain (OpenSpec.upto markDoesSpec)) markDoesUptoCard
end Rows
end Go.Proofs.YtjlaccjneaomgaaGreatDoor

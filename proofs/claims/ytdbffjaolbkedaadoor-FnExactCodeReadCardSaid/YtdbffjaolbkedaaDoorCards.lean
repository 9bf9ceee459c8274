/-
  DERIVED. GIVEN WITH THE SEED: THE CARDS: each row of YtdbffjaolbkedaaDoorRows.lean that lists a variable, with what it lists TIED to the program's text (the seventh form; the later family's looks); each row that meets fmt, with fmt's text TOLD by the authors' own Lean function (tested against real Go, not proved from fmt's source: count such statements apart). THE CARD IS WHAT COUNTS. Prove the row's statement (the work); the ties are given (YtdbffjaolbkedaaDoorTie.lean); close each card by the builder's one call (the guide's Derived/Test/ToyasCard.lean, 'card_holds'). Laid BY PROGRAM, IN A SANDBOX (cutbox-door.mjs). By AI agents, Wed Nov 11 2026. No macro, syntax, notation, axiom, sorry.
-/
import Derived.Test.YtdbffjaolbkedaaDoorRows
import GoSem.ClaimSeven
namespace Go.Proofs.YtdbffjaolbkedaaDoor
namespace Rows

/-- THE TIED CARD OF 'laws.FnExactInsRead'. -/
def fnExactInsReadCard : Claim7 := { stood := { row := fnExactInsReadRow, standIns := [], harness := (true, "c99c564e6f6479e311f12c6f70993b34dd891e8216bd899c83e741373f88bfd9"), looks := true }, kinds := [], alts := [], laidByText := true, laidKinds := [.data, .data, .data, .data, .sentinel, .sentinel, .pinned], laidTests := true, laidLooks := .later }
def FnExactInsReadCardSaid : Prop := Claim7.holds Tryd.pinned (.plain (OpenSpec.ofChange fnExactInsReadSpec)) fnExactInsReadCard

/-- THE TIED CARD OF 'laws.FnExactCodeRead'. -/
def fnExactCodeReadCard : Claim7 := { stood := { row := fnExactCodeReadRow, standIns := [], harness := (true, "c99c564e6f6479e311f12c6f70993b34dd891e8216bd899c83e741373f88bfd9"), looks := true }, kinds := [], alts := [], laidByText := true, laidKinds := [.data, .data, .data, .data, .sentinel, .sentinel, .pinned], laidTests := true, laidLooks := .later }
def FnExactCodeReadCardSaid : Prop := Claim7.holds Tryd.pinned (.plain (OpenSpec.ofChange fnExactCodeReadSpec)) fnExactCodeReadCard

/-- THE SECOND FORM's CARD OF 'laws.FnExactInsRead'. -/
def fnExactInsReadUptoCard : Claim7 := { stood := { row := fnExactInsReadUptoRow, standIns := [], harness := (true, "c99c564e6f6479e311f12c6f70993b34dd891e8216bd899c83e741373f88bfd9"), looks := true }, kinds := [], alts := [], laidByText := true, laidKinds := [.data, .data, .data, .data, .sentinel, .sentinel, .pinned], laidTests := true, laidLooks := .later }
def FnExactInsReadUptoCardSaid : Prop := Claim7.holds Tryd.pinned (.plain (OpenSpec.upto fnExactInsReadSpec)) fnExactInsReadUptoCard

/-- THE SECOND FORM's CARD OF 'laws.FnExactCodeRead'. -/
def fnExactCodeReadUptoCard : Claim7 := { stood := { row := fnExactCodeReadUptoRow, standIns := [], harness := (true, "c99c564e6f6479e311f12c6f70993b34dd891e8216bd899c83e741373f88bfd9"), looks := true }, kinds := [], alts := [], laidByText := true, laidKinds := [.data, .data, .data, .data, .sentinel, .sentinel, .pinned], laidTests := true, laidLooks := .later }
def FnExactCodeReadUptoCardSaid : Prop := Claim7.holds Tryd.pinned (.plain (OpenSpec.upto fnExactCodeReadSpec)) fnExactCodeReadUptoCard
end Rows
end Go.Proofs.YtdbffjaolbkedaaDoor

/-
  DERIVED. GIVEN WITH THE SEED: THE CARDS: each row of YtfindomajbjacaaGreatDoorRows.lean that lists a variable, with what it lists TIED to the program's text (the seventh form; the later family's looks); each row that meets fmt, with fmt's text TOLD by the authors' own Lean function (tested against real Go, not proved from fmt's source: count such statements apart). THE CARD IS WHAT COUNTS. Prove the row's statement (the work); the ties are given (YtfindomajbjacaaGreatDoorTie.lean); close each card by the builder's one call (the guide's Derived/Test/ToyasCard.lean, 'card_holds'). Laid BY PROGRAM, IN A SANDBOX (cutbox-door.mjs). By AI agents, Wed Nov 11 2026. No macro, syntax, notation, axiom, sorry.
-/
import Derived.Test.YtfindomajbjacaaGreatDoorRows
import GoSem.ClaimSeven
namespace Go.Proofs.YtfindomajbjacaaGreatDoor
namespace Rows

/-- THE TIED CARD OF 'laws.FnRotations'. -/
def fnRotationsCard : Claim7 := { stood := { row := fnRotationsRow, standIns := [], harness := (true, "afd42f6441e46c63e675570613795995c4fde1236fe726501e009d50e9177f72"), looks := true }, kinds := [], alts := [], laidByText := true, laidKinds := [.data, .data, .data, .data, .sentinel, .sentinel, .pinned], laidTests := true, laidLooks := .later }
def FnRotationsCardSaid : Prop := Claim7.holds Tryz.pinned (.plain (OpenSpec.ofChange fnRotationsSpec)) fnRotationsCard

/-- THE TIED CARD OF 'laws.FnManifests'. -/
def fnManifestsCard : Claim7 := { stood := { row := fnManifestsRow, standIns := [], harness := (true, "afd42f6441e46c63e675570613795995c4fde1236fe726501e009d50e9177f72"), looks := true }, kinds := [], alts := [], laidByText := true, laidKinds := [.data, .data, .data, .data, .sentinel, .sentinel, .pinned], laidTests := true, laidLooks := .later }
def FnManifestsCardSaid : Prop := Claim7.holds Tryz.pinned (.plain (OpenSpec.ofChange fnManifestsSpec)) fnManifestsCard

/-- THE SECOND FORM's CARD OF 'laws.FnRotations'. -/
def fnRotationsUptoCard : Claim7 := { stood := { row := fnRotationsUptoRow, standIns := [], harness := (true, "afd42f6441e46c63e675570613795995c4fde1236fe726501e009d50e9177f72"), looks := true }, kinds := [], alts := [], laidByText := true, laidKinds := [.data, .data, .data, .data, .sentinel, .sentinel, .pinned], laidTests := true, laidLooks := .later }
def FnRotationsUptoCardSaid : Prop := Claim7.holds Tryz.pinned (.plain (OpenSpec.upto fnRotationsSpec)) fnRotationsUptoCard

/-- THE SECOND FORM's CARD OF 'laws.FnManifests'. -/
def fnManifestsUptoCard : Claim7 := { stood := { row := fnManifestsUptoRow, standIns := [], harness := (true, "afd42f6441e46c63e675570613795995c4fde1236fe726501e009d50e9177f72"), looks := true }, kinds := [], alts := [], laidByText := true, laidKinds := [.data, .data, .data, .data, .sentinel, .sentinel, .pinned], laidTests := true, laidLooks := .later }
def FnManifestsUptoCardSaid : Prop := Claim7.holds Tryz.pinned (.plain (OpenSpec.upto fnManifestsSpec)) fnManifestsUptoCard
end Rows
end Go.Proofs.YtfindomajbjacaaGreatDoor

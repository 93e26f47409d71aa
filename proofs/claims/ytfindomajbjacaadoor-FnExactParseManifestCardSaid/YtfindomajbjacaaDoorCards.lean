/-
  DERIVED. GIVEN WITH THE SEED: THE CARDS: each row of YtfindomajbjacaaDoorRows.lean that lists a variable, with what it lists TIED to the program's text (the seventh form; the later family's looks); each row that meets fmt, with fmt's text TOLD by the authors' own Lean function (tested against real Go, not proved from fmt's source: count such statements apart). THE CARD IS WHAT COUNTS. Prove the row's statement (the work); the ties are given (YtfindomajbjacaaDoorTie.lean); close each card by the builder's one call (the guide's Derived/Test/ToyasCard.lean, 'card_holds'). Laid BY PROGRAM, IN A SANDBOX (cutbox-door.mjs). By AI agents, Wed Nov 11 2026. No macro, syntax, notation, axiom, sorry.
-/
import Derived.Test.YtfindomajbjacaaDoorRows
import GoSem.ClaimSeven
namespace Go.Proofs.YtfindomajbjacaaDoor
namespace Rows

/-- THE TIED CARD OF 'laws.FnExactContainerText'. -/
def fnExactContainerTextCard : Claim7 := { stood := { row := fnExactContainerTextRow, standIns := [], harness := (true, "776dc0867e43b4c8be12587878f0ef7e2a2a23c26dcb8af149b1f4f2f5f28fc5"), looks := true }, kinds := [], alts := [], laidByText := true, laidKinds := [.data, .data, .data], laidTests := true, laidLooks := .later }
def FnExactContainerTextCardSaid : Prop := Claim7.holds Tryd.pinned (.plain (OpenSpec.ofChange fnExactContainerTextSpec)) fnExactContainerTextCard

/-- THE TIED CARD OF 'laws.FnExactRotationText'. -/
def fnExactRotationTextCard : Claim7 := { stood := { row := fnExactRotationTextRow, standIns := [], harness := (true, "776dc0867e43b4c8be12587878f0ef7e2a2a23c26dcb8af149b1f4f2f5f28fc5"), looks := true }, kinds := [], alts := [], laidByText := true, laidKinds := [.data, .data, .data], laidTests := true, laidLooks := .later }
def FnExactRotationTextCardSaid : Prop := Claim7.holds Tryd.pinned (.plain (OpenSpec.ofChange fnExactRotationTextSpec)) fnExactRotationTextCard

/-- THE TIED CARD OF 'laws.FnExactManifestText'. -/
def fnExactManifestTextCard : Claim7 := { stood := { row := fnExactManifestTextRow, standIns := [], harness := (true, "776dc0867e43b4c8be12587878f0ef7e2a2a23c26dcb8af149b1f4f2f5f28fc5"), looks := true }, kinds := [], alts := [], laidByText := true, laidKinds := [.data, .data, .data], laidTests := true, laidLooks := .later }
def FnExactManifestTextCardSaid : Prop := Claim7.holds Tryd.pinned (.plain (OpenSpec.ofChange fnExactManifestTextSpec)) fnExactManifestTextCard

/-- THE TIED CARD OF 'laws.FnExactParseContainer'. -/
def fnExactParseContainerCard : Claim7 := { stood := { row := fnExactParseContainerRow, standIns := [], harness := (true, "776dc0867e43b4c8be12587878f0ef7e2a2a23c26dcb8af149b1f4f2f5f28fc5"), looks := true }, kinds := [], alts := [], laidByText := true, laidKinds := [.data, .data, .data, .data, .sentinel, .sentinel, .pinned], laidTests := true, laidLooks := .later }
def FnExactParseContainerCardSaid : Prop := Claim7.holds Tryd.pinned (.plain (OpenSpec.ofChange fnExactParseContainerSpec)) fnExactParseContainerCard

/-- THE TIED CARD OF 'laws.FnExactParseRotation'. -/
def fnExactParseRotationCard : Claim7 := { stood := { row := fnExactParseRotationRow, standIns := [], harness := (true, "776dc0867e43b4c8be12587878f0ef7e2a2a23c26dcb8af149b1f4f2f5f28fc5"), looks := true }, kinds := [], alts := [], laidByText := true, laidKinds := [.data, .data, .data, .data, .sentinel, .sentinel, .pinned], laidTests := true, laidLooks := .later }
def FnExactParseRotationCardSaid : Prop := Claim7.holds Tryd.pinned (.plain (OpenSpec.ofChange fnExactParseRotationSpec)) fnExactParseRotationCard

/-- THE TIED CARD OF 'laws.FnExactParseManifest'. -/
def fnExactParseManifestCard : Claim7 := { stood := { row := fnExactParseManifestRow, standIns := [], harness := (true, "776dc0867e43b4c8be12587878f0ef7e2a2a23c26dcb8af149b1f4f2f5f28fc5"), looks := true }, kinds := [], alts := [], laidByText := true, laidKinds := [.data, .data, .data, .data, .sentinel, .sentinel, .pinned], laidTests := true, laidLooks := .later }
def FnExactParseManifestCardSaid : Prop := Claim7.holds Tryd.pinned (.plain (OpenSpec.ofChange fnExactParseManifestSpec)) fnExactParseManifestCard

/-- THE SECOND FORM's CARD OF 'laws.FnExactContainerText'. -/
def fnExactContainerTextUptoCard : Claim7 := { stood := { row := fnExactContainerTextUptoRow, standIns := [], harness := (true, "776dc0867e43b4c8be12587878f0ef7e2a2a23c26dcb8af149b1f4f2f5f28fc5"), looks := true }, kinds := [], alts := [], laidByText := true, laidKinds := [.data, .data, .data], laidTests := true, laidLooks := .later }
def FnExactContainerTextUptoCardSaid : Prop := Claim7.holds Tryd.pinned (.plain (OpenSpec.upto fnExactContainerTextSpec)) fnExactContainerTextUptoCard

/-- THE SECOND FORM's CARD OF 'laws.FnExactRotationText'. -/
def fnExactRotationTextUptoCard : Claim7 := { stood := { row := fnExactRotationTextUptoRow, standIns := [], harness := (true, "776dc0867e43b4c8be12587878f0ef7e2a2a23c26dcb8af149b1f4f2f5f28fc5"), looks := true }, kinds := [], alts := [], laidByText := true, laidKinds := [.data, .data, .data], laidTests := true, laidLooks := .later }
def FnExactRotationTextUptoCardSaid : Prop := Claim7.holds Tryd.pinned (.plain (OpenSpec.upto fnExactRotationTextSpec)) fnExactRotationTextUptoCard

/-- THE SECOND FORM's CARD OF 'laws.FnExactManifestText'. -/
def fnExactManifestTextUptoCard : Claim7 := { stood := { row := fnExactManifestTextUptoRow, standIns := [], harness := (true, "776dc0867e43b4c8be12587878f0ef7e2a2a23c26dcb8af149b1f4f2f5f28fc5"), looks := true }, kinds := [], alts := [], laidByText := true, laidKinds := [.data, .data, .data], laidTests := true, laidLooks := .later }
def FnExactManifestTextUptoCardSaid : Prop := Claim7.holds Tryd.pinned (.plain (OpenSpec.upto fnExactManifestTextSpec)) fnExactManifestTextUptoCard

/-- THE SECOND FORM's CARD OF 'laws.FnExactParseContainer'. -/
def fnExactParseContainerUptoCard : Claim7 := { stood := { row := fnExactParseContainerUptoRow, standIns := [], harness := (true, "776dc0867e43b4c8be12587878f0ef7e2a2a23c26dcb8af149b1f4f2f5f28fc5"), looks := true }, kinds := [], alts := [], laidByText := true, laidKinds := [.data, .data, .data, .data, .sentinel, .sentinel, .pinned], laidTests := true, laidLooks := .later }
def FnExactParseContainerUptoCardSaid : Prop := Claim7.holds Tryd.pinned (.plain (OpenSpec.upto fnExactParseContainerSpec)) fnExactParseContainerUptoCard

/-- THE SECOND FORM's CARD OF 'laws.FnExactParseRotation'. -/
def fnExactParseRotationUptoCard : Claim7 := { stood := { row := fnExactParseRotationUptoRow, standIns := [], harness := (true, "776dc0867e43b4c8be12587878f0ef7e2a2a23c26dcb8af149b1f4f2f5f28fc5"), looks := true }, kinds := [], alts := [], laidByText := true, laidKinds := [.data, .data, .data, .data, .sentinel, .sentinel, .pinned], laidTests := true, laidLooks := .later }
def FnExactParseRotationUptoCardSaid : Prop := Claim7.holds Tryd.pinned (.plain (OpenSpec.upto fnExactParseRotationSpec)) fnExactParseRotationUptoCard

/-- THE SECOND FORM's CARD OF 'laws.FnExactParseManifest'. -/
def fnExactParseManifestUptoCard : Claim7 := { stood := { row := fnExactParseManifestUptoRow, standIns := [], harness := (true, "776dc0867e43b4c8be12587878f0ef7e2a2a23c26dcb8af149b1f4f2f5f28fc5"), looks := true }, kinds := [], alts := [], laidByText := true, laidKinds := [.data, .data, .data, .data, .sentinel, .sentinel, .pinned], laidTests := true, laidLooks := .later }
def FnExactParseManifestUptoCardSaid : Prop := Claim7.holds Tryd.pinned (.plain (OpenSpec.upto fnExactParseManifestSpec)) fnExactParseManifestUptoCard
end Rows
end Go.Proofs.YtfindomajbjacaaDoor

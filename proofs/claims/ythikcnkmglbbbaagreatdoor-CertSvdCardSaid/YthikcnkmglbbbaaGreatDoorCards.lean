/-
  DERIVED. GIVEN WITH THE SEED: THE CARDS: each row of YthikcnkmglbbbaaGreatDoorRows.lean that lists a variable, with what it lists TIED to the program's text (the seventh form; the later family's looks); each row that meets fmt, with fmt's text TOLD by the authors' own Lean function (tested against real Go, not proved from fmt's source: count such statements apart). THE CARD IS WHAT COUNTS. Prove the row's statement (the work); the ties are given (YthikcnkmglbbbaaGreatDoorTie.lean); close each card by the builder's one call (the guide's Derived/Test/ToyasCard.lean, 'card_holds'). Laid BY PROGRAM, IN A SANDBOX (cutbox-door.mjs). By AI agents, Wed Nov 11 2026. No macro, syntax, notation, axiom, sorry.
-/
import Derived.Test.YthikcnkmglbbbaaGreatDoorRows
import GoSem.ClaimSeven
namespace Go.Proofs.YthikcnkmglbbbaaGreatDoor
namespace Rows

/-- THE TIED CARD OF 'plumblinelaw19.CertSizes'. -/
def certSizesCard : Claim7 := { stood := { row := certSizesRow, standIns := [], harness := (true, "caf565605b5cad8ba51c4f0184b4af7fe49f4b7d40b07418b8dc05a0e784a9fd"), looks := false }, kinds := [], alts := [], laidByText := true, laidKinds := [.data], laidTests := true, laidLooks := .later }
def CertSizesCardSaid : Prop := Claim7.holds Tryz.pinned (.plain (OpenSpec.ofChange certSizesSpec)) certSizesCard

/-- THE TIED CARD OF 'plumblinelaw19.CertResiduals'. -/
def certResidualsCard : Claim7 := { stood := { row := certResidualsRow, standIns := [], harness := (true, "caf565605b5cad8ba51c4f0184b4af7fe49f4b7d40b07418b8dc05a0e784a9fd"), looks := false }, kinds := [], alts := [], laidByText := true, laidKinds := [.data], laidTests := true, laidLooks := .later }
def CertResidualsCardSaid : Prop := Claim7.holds Tryz.pinned (.plain (OpenSpec.ofChange certResidualsSpec)) certResidualsCard

/-- THE TIED CARD OF 'plumblinelaw19.CertSym'. -/
def certSymCard : Claim7 := { stood := { row := certSymRow, standIns := [], harness := (true, "caf565605b5cad8ba51c4f0184b4af7fe49f4b7d40b07418b8dc05a0e784a9fd"), looks := false }, kinds := [], alts := [], laidByText := true, laidKinds := [.data], laidTests := true, laidLooks := .later }
def CertSymCardSaid : Prop := Claim7.holds Tryz.pinned (.plain (OpenSpec.ofChange certSymSpec)) certSymCard

/-- THE TIED CARD OF 'plumblinelaw19.CertBounds'. -/
def certBoundsCard : Claim7 := { stood := { row := certBoundsRow, standIns := [], harness := (true, "caf565605b5cad8ba51c4f0184b4af7fe49f4b7d40b07418b8dc05a0e784a9fd"), looks := false }, kinds := [], alts := [], laidByText := true, laidKinds := [.data], laidTests := true, laidLooks := .later }
def CertBoundsCardSaid : Prop := Claim7.holds Tryz.pinned (.plain (OpenSpec.ofChange certBoundsSpec)) certBoundsCard

/-- THE TIED CARD OF 'plumblinelaw19.CertSvd'. -/
def certSvdCard : Claim7 := { stood := { row := certSvdRow, standIns := [], harness := (true, "caf565605b5cad8ba51c4f0184b4af7fe49f4b7d40b07418b8dc05a0e784a9fd"), looks := false }, kinds := [], alts := [], laidByText := true, laidKinds := [.data], laidTests := true, laidLooks := .later }
def CertSvdCardSaid : Prop := Claim7.holds Tryz.pinned (.plain (OpenSpec.ofChange certSvdSpec)) certSvdCard

/-- THE SECOND FORM's CARD OF 'plumblinelaw19.CertSizes'. -/
def certSizesUptoCard : Claim7 := { stood := { row := certSizesUptoRow, standIns := [], harness := (true, "caf565605b5cad8ba51c4f0184b4af7fe49f4b7d40b07418b8dc05a0e784a9fd"), looks := false }, kinds := [], alts := [], laidByText := true, laidKinds := [.data], laidTests := true, laidLooks := .later }
def CertSizesUptoCardSaid : Prop := Claim7.holds Tryz.pinned (.plain (OpenSpec.upto certSizesSpec)) certSizesUptoCard

/-- THE SECOND FORM's CARD OF 'plumblinelaw19.CertResiduals'. -/
def certResidualsUptoCard : Claim7 := { stood := { row := certResidualsUptoRow, standIns := [], harness := (true, "caf565605b5cad8ba51c4f0184b4af7fe49f4b7d40b07418b8dc05a0e784a9fd"), looks := false }, kinds := [], alts := [], laidByText := true, laidKinds := [.data], laidTests := true, laidLooks := .later }
def CertResidualsUptoCardSaid : Prop := Claim7.holds Tryz.pinned (.plain (OpenSpec.upto certResidualsSpec)) certResidualsUptoCard

/-- THE SECOND FORM's CARD OF 'plumblinelaw19.CertSym'. -/
def certSymUptoCard : Claim7 := { stood := { row := certSymUptoRow, standIns := [], harness := (true, "caf565605b5cad8ba51c4f0184b4af7fe49f4b7d40b07418b8dc05a0e784a9fd"), looks := false }, kinds := [], alts := [], laidByText := true, laidKinds := [.data], laidTests := true, laidLooks := .later }
def CertSymUptoCardSaid : Prop := Claim7.holds Tryz.pinned (.plain (OpenSpec.upto certSymSpec)) certSymUptoCard

/-- THE SECOND FORM's CARD OF 'plumblinelaw19.CertBounds'. -/
def certBoundsUptoCard : Claim7 := { stood := { row := certBoundsUptoRow, standIns := [], harness := (true, "caf565605b5cad8ba51c4f0184b4af7fe49f4b7d40b07418b8dc05a0e784a9fd"), looks := false }, kinds := [], alts := [], laidByText := true, laidKinds := [.data], laidTests := true, laidLooks := .later }
def CertBoundsUptoCardSaid : Prop := Claim7.holds Tryz.pinned (.plain (OpenSpec.upto certBoundsSpec)) certBoundsUptoCard

/-- THE SECOND FORM's CARD OF 'plumblinelaw19.CertSvd'. -/
def certSvdUptoCard : Claim7 := { stood := { row := certSvdUptoRow, standIns := [], harness := (true, "caf565605b5cad8ba51c4f0184b4af7fe49f4b7d40b07418b8dc05a0e784a9fd"), looks := false }, kinds := [], alts := [], laidByText := true, laidKinds := [.data], laidTests := true, laidLooks := .later }
def CertSvdUptoCardSaid : Prop := Claim7.holds Tryz.pinned (.plain (OpenSpec.upto certSvdSpec)) certSvdUptoCard
end Rows
end Go.Proofs.YthikcnkmglbbbaaGreatDoor

/-
  DERIVED. GIVEN WITH THE SEED: THE CARDS: each row of YtcfhbjfbfmlkiaaGreatDoorRows.lean that lists a variable, with what it lists TIED to the program's text (the seventh form; the later family's looks); each row that meets fmt, with fmt's text TOLD by the authors' own Lean function (tested against real Go, not proved from fmt's source: count such statements apart). THE CARD IS WHAT COUNTS. Prove the row's statement (the work); the ties are given (YtcfhbjfbfmlkiaaGreatDoorTie.lean); close each card by the builder's one call (the guide's Derived/Test/ToyasCard.lean, 'card_holds'). Laid BY PROGRAM, IN A SANDBOX (cutbox-door.mjs). By AI agents, Wed Nov 11 2026. No macro, syntax, notation, axiom, sorry.
-/
import Derived.Test.YtcfhbjfbfmlkiaaGreatDoorRows
import GoSem.ClaimSeven
namespace Go.Proofs.YtcfhbjfbfmlkiaaGreatDoor
namespace Rows

/-- THE TIED CARD OF 'plumblinelaw21.SvdWays'. -/
def svdWaysCard : Claim7 := { stood := { row := svdWaysRow, standIns := [], harness := (true, "92cf1a5c41e790e389b3236b85d9664f2270d12953f6ea4441eb32db2de28b71"), looks := false }, kinds := [], alts := [], laidByText := true, laidKinds := [.data], laidTests := true, laidLooks := .later }
def SvdWaysCardSaid : Prop := Claim7.holds Tryz.pinned (.plain (OpenSpec.ofChange svdWaysSpec)) svdWaysCard

/-- THE TIED CARD OF 'plumblinelaw21.SvdCertified'. -/
def svdCertifiedCard : Claim7 := { stood := { row := svdCertifiedRow, standIns := [], harness := (true, "92cf1a5c41e790e389b3236b85d9664f2270d12953f6ea4441eb32db2de28b71"), looks := false }, kinds := [], alts := [], laidByText := true, laidKinds := [.data], laidTests := true, laidLooks := .later }
def SvdCertifiedCardSaid : Prop := Claim7.holds Tryz.pinned (.plain (OpenSpec.ofChange svdCertifiedSpec)) svdCertifiedCard

/-- THE TIED CARD OF 'plumblinelaw21.SvdBounds'. -/
def svdBoundsCard : Claim7 := { stood := { row := svdBoundsRow, standIns := [], harness := (true, "92cf1a5c41e790e389b3236b85d9664f2270d12953f6ea4441eb32db2de28b71"), looks := false }, kinds := [], alts := [], laidByText := true, laidKinds := [.data], laidTests := true, laidLooks := .later }
def SvdBoundsCardSaid : Prop := Claim7.holds Tryz.pinned (.plain (OpenSpec.ofChange svdBoundsSpec)) svdBoundsCard

/-- THE TIED CARD OF 'plumblinelaw21.SvdValues'. -/
def svdValuesCard : Claim7 := { stood := { row := svdValuesRow, standIns := [], harness := (true, "92cf1a5c41e790e389b3236b85d9664f2270d12953f6ea4441eb32db2de28b71"), looks := false }, kinds := [], alts := [], laidByText := true, laidKinds := [.data], laidTests := true, laidLooks := .later }
def SvdValuesCardSaid : Prop := Claim7.holds Tryz.pinned (.plain (OpenSpec.ofChange svdValuesSpec)) svdValuesCard

/-- THE TIED CARD OF 'plumblinelaw21.SvdBidiagonals'. -/
def svdBidiagonalsCard : Claim7 := { stood := { row := svdBidiagonalsRow, standIns := [], harness := (true, "92cf1a5c41e790e389b3236b85d9664f2270d12953f6ea4441eb32db2de28b71"), looks := false }, kinds := [], alts := [], laidByText := true, laidKinds := [.data], laidTests := true, laidLooks := .later }
def SvdBidiagonalsCardSaid : Prop := Claim7.holds Tryz.pinned (.plain (OpenSpec.ofChange svdBidiagonalsSpec)) svdBidiagonalsCard

/-- THE TIED CARD OF 'plumblinelaw22.RankThresholds'. -/
def rankThresholdsCard : Claim7 := { stood := { row := rankThresholdsRow, standIns := [], harness := (true, "92cf1a5c41e790e389b3236b85d9664f2270d12953f6ea4441eb32db2de28b71"), looks := false }, kinds := [], alts := [], laidByText := true, laidKinds := [.data], laidTests := true, laidLooks := .later }
def RankThresholdsCardSaid : Prop := Claim7.holds Tryz.pinned (.plain (OpenSpec.ofChange rankThresholdsSpec)) rankThresholdsCard

/-- THE TIED CARD OF 'plumblinelaw22.RankCounts'. -/
def rankCountsCard : Claim7 := { stood := { row := rankCountsRow, standIns := [], harness := (true, "92cf1a5c41e790e389b3236b85d9664f2270d12953f6ea4441eb32db2de28b71"), looks := false }, kinds := [], alts := [], laidByText := true, laidKinds := [.data], laidTests := true, laidLooks := .later }
def RankCountsCardSaid : Prop := Claim7.holds Tryz.pinned (.plain (OpenSpec.ofChange rankCountsSpec)) rankCountsCard

/-- THE TIED CARD OF 'plumblinelaw22.RankRatios'. -/
def rankRatiosCard : Claim7 := { stood := { row := rankRatiosRow, standIns := [], harness := (true, "92cf1a5c41e790e389b3236b85d9664f2270d12953f6ea4441eb32db2de28b71"), looks := false }, kinds := [], alts := [], laidByText := true, laidKinds := [.data], laidTests := true, laidLooks := .later }
def RankRatiosCardSaid : Prop := Claim7.holds Tryz.pinned (.plain (OpenSpec.ofChange rankRatiosSpec)) rankRatiosCard

/-- THE TIED CARD OF 'plumblinelaw22.RankInverses'. -/
def rankInversesCard : Claim7 := { stood := { row := rankInversesRow, standIns := [], harness := (true, "92cf1a5c41e790e389b3236b85d9664f2270d12953f6ea4441eb32db2de28b71"), looks := false }, kinds := [], alts := [], laidByText := true, laidKinds := [.data], laidTests := true, laidLooks := .later }
def RankInversesCardSaid : Prop := Claim7.holds Tryz.pinned (.plain (OpenSpec.ofChange rankInversesSpec)) rankInversesCard

/-- THE TIED CARD OF 'plumblinelaw22.RankSolves'. -/
def rankSolvesCard : Claim7 := { stood := { row := rankSolvesRow, standIns := [], harness := (true, "92cf1a5c41e790e389b3236b85d9664f2270d12953f6ea4441eb32db2de28b71"), looks := false }, kinds := [], alts := [], laidByText := true, laidKinds := [.data], laidTests := true, laidLooks := .later }
def RankSolvesCardSaid : Prop := Claim7.holds Tryz.pinned (.plain (OpenSpec.ofChange rankSolvesSpec)) rankSolvesCard

/-- THE TIED CARD OF 'plumblinelaw22.RankFalls'. -/
def rankFallsCard : Claim7 := { stood := { row := rankFallsRow, standIns := [], harness := (true, "92cf1a5c41e790e389b3236b85d9664f2270d12953f6ea4441eb32db2de28b71"), looks := false }, kinds := [], alts := [], laidByText := true, laidKinds := [.data], laidTests := true, laidLooks := .later }
def RankFallsCardSaid : Prop := Claim7.holds Tryz.pinned (.plain (OpenSpec.ofChange rankFallsSpec)) rankFallsCard

/-- THE TIED CARD OF 'plumblinelaw22.RankBounds'. -/
def rankBoundsCard : Claim7 := { stood := { row := rankBoundsRow, standIns := [], harness := (true, "92cf1a5c41e790e389b3236b85d9664f2270d12953f6ea4441eb32db2de28b71"), looks := false }, kinds := [], alts := [], laidByText := true, laidKinds := [.data], laidTests := true, laidLooks := .later }
def RankBoundsCardSaid : Prop := Claim7.holds Tryz.pinned (.plain (OpenSpec.ofChange rankBoundsSpec)) rankBoundsCard

/-- THE SECOND FORM's CARD OF 'plumblinelaw21.SvdWays'. -/
def svdWaysUptoCard : Claim7 := { stood := { row := svdWaysUptoRow, standIns := [], harness := (true, "92cf1a5c41e790e389b3236b85d9664f2270d12953f6ea4441eb32db2de28b71"), looks := false }, kinds := [], alts := [], laidByText := true, laidKinds := [.data], laidTests := true, laidLooks := .later }
def SvdWaysUptoCardSaid : Prop := Claim7.holds Tryz.pinned (.plain (OpenSpec.upto svdWaysSpec)) svdWaysUptoCard

/-- THE SECOND FORM's CARD OF 'plumblinelaw21.SvdCertified'. -/
def svdCertifiedUptoCard : Claim7 := { stood := { row := svdCertifiedUptoRow, standIns := [], harness := (true, "92cf1a5c41e790e389b3236b85d9664f2270d12953f6ea4441eb32db2de28b71"), looks := false }, kinds := [], alts := [], laidByText := true, laidKinds := [.data], laidTests := true, laidLooks := .later }
def SvdCertifiedUptoCardSaid : Prop := Claim7.holds Tryz.pinned (.plain (OpenSpec.upto svdCertifiedSpec)) svdCertifiedUptoCard

/-- THE SECOND FORM's CARD OF 'plumblinelaw21.SvdBounds'. -/
def svdBoundsUptoCard : Claim7 := { stood := { row := svdBoundsUptoRow, standIns := [], harness := (true, "92cf1a5c41e790e389b3236b85d9664f2270d12953f6ea4441eb32db2de28b71"), looks := false }, kinds := [], alts := [], laidByText := true, laidKinds := [.data], laidTests := true, laidLooks := .later }
def SvdBoundsUptoCardSaid : Prop := Claim7.holds Tryz.pinned (.plain (OpenSpec.upto svdBoundsSpec)) svdBoundsUptoCard

/-- THE SECOND FORM's CARD OF 'plumblinelaw21.SvdValues'. -/
def svdValuesUptoCard : Claim7 := { stood := { row := svdValuesUptoRow, standIns := [], harness := (true, "92cf1a5c41e790e389b3236b85d9664f2270d12953f6ea4441eb32db2de28b71"), looks := false }, kinds := [], alts := [], laidByText := true, laidKinds := [.data], laidTests := true, laidLooks := .later }
def SvdValuesUptoCardSaid : Prop := Claim7.holds Tryz.pinned (.plain (OpenSpec.upto svdValuesSpec)) svdValuesUptoCard

/-- THE SECOND FORM's CARD OF 'plumblinelaw21.SvdBidiagonals'. -/
def svdBidiagonalsUptoCard : Claim7 := { stood := { row := svdBidiagonalsUptoRow, standIns := [], harness := (true, "92cf1a5c41e790e389b3236b85d9664f2270d12953f6ea4441eb32db2de28b71"), looks := false }, kinds := [], alts := [], laidByText := true, laidKinds := [.data], laidTests := true, laidLooks := .later }
def SvdBidiagonalsUptoCardSaid : Prop := Claim7.holds Tryz.pinned (.plain (OpenSpec.upto svdBidiagonalsSpec)) svdBidiagonalsUptoCard

/-- THE SECOND FORM's CARD OF 'plumblinelaw22.RankThresholds'. -/
def rankThresholdsUptoCard : Claim7 := { stood := { row := rankThresholdsUptoRow, standIns := [], harness := (true, "92cf1a5c41e790e389b3236b85d9664f2270d12953f6ea4441eb32db2de28b71"), looks := false }, kinds := [], alts := [], laidByText := true, laidKinds := [.data], laidTests := true, laidLooks := .later }
def RankThresholdsUptoCardSaid : Prop := Claim7.holds Tryz.pinned (.plain (OpenSpec.upto rankThresholdsSpec)) rankThresholdsUptoCard

/-- THE SECOND FORM's CARD OF 'plumblinelaw22.RankCounts'. -/
def rankCountsUptoCard : Claim7 := { stood := { row := rankCountsUptoRow, standIns := [], harness := (true, "92cf1a5c41e790e389b3236b85d9664f2270d12953f6ea4441eb32db2de28b71"), looks := false }, kinds := [], alts := [], laidByText := true, laidKinds := [.data], laidTests := true, laidLooks := .later }
def RankCountsUptoCardSaid : Prop := Claim7.holds Tryz.pinned (.plain (OpenSpec.upto rankCountsSpec)) rankCountsUptoCard

/-- THE SECOND FORM's CARD OF 'plumblinelaw22.RankRatios'. -/
def rankRatiosUptoCard : Claim7 := { stood := { row := rankRatiosUptoRow, standIns := [], harness := (true, "92cf1a5c41e790e389b3236b85d9664f2270d12953f6ea4441eb32db2de28b71"), looks := false }, kinds := [], alts := [], laidByText := true, laidKinds := [.data], laidTests := true, laidLooks := .later }
def RankRatiosUptoCardSaid : Prop := Claim7.holds Tryz.pinned (.plain (OpenSpec.upto rankRatiosSpec)) rankRatiosUptoCard

/-- THE SECOND FORM's CARD OF 'plumblinelaw22.RankInverses'. -/
def rankInversesUptoCard : Claim7 := { stood := { row := rankInversesUptoRow, standIns := [], harness := (true, "92cf1a5c41e790e389b3236b85d9664f2270d12953f6ea4441eb32db2de28b71"), looks := false }, kinds := [], alts := [], laidByText := true, laidKinds := [.data], laidTests := true, laidLooks := .later }
def RankInversesUptoCardSaid : Prop := Claim7.holds Tryz.pinned (.plain (OpenSpec.upto rankInversesSpec)) rankInversesUptoCard

/-- THE SECOND FORM's CARD OF 'plumblinelaw22.RankSolves'. -/
def rankSolvesUptoCard : Claim7 := { stood := { row := rankSolvesUptoRow, standIns := [], harness := (true, "92cf1a5c41e790e389b3236b85d9664f2270d12953f6ea4441eb32db2de28b71"), looks := false }, kinds := [], alts := [], laidByText := true, laidKinds := [.data], laidTests := true, laidLooks := .later }
def RankSolvesUptoCardSaid : Prop := Claim7.holds Tryz.pinned (.plain (OpenSpec.upto rankSolvesSpec)) rankSolvesUptoCard

/-- THE SECOND FORM's CARD OF 'plumblinelaw22.RankFalls'. -/
def rankFallsUptoCard : Claim7 := { stood := { row := rankFallsUptoRow, standIns := [], harness := (true, "92cf1a5c41e790e389b3236b85d9664f2270d12953f6ea4441eb32db2de28b71"), looks := false }, kinds := [], alts := [], laidByText := true, laidKinds := [.data], laidTests := true, laidLooks := .later }
def RankFallsUptoCardSaid : Prop := Claim7.holds Tryz.pinned (.plain (OpenSpec.upto rankFallsSpec)) rankFallsUptoCard

/-- THE SECOND FORM's CARD OF 'plumblinelaw22.RankBounds'. -/
def rankBoundsUptoCard : Claim7 := { stood := { row := rankBoundsUptoRow, standIns := [], harness := (true, "92cf1a5c41e790e389b3236b85d9664f2270d12953f6ea4441eb32db2de28b71"), looks := false }, kinds := [], alts := [], laidByText := true, laidKinds := [.data], laidTests := true, laidLooks := .later }
def RankBoundsUptoCardSaid : Prop := Claim7.holds Tryz.pinned (.plain (OpenSpec.upto rankBoundsSpec)) rankBoundsUptoCard
end Rows
end Go.Proofs.YtcfhbjfbfmlkiaaGreatDoor

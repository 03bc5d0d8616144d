/-
  DERIVED. GIVEN WITH THE SEED: THE CARDS: each row of YthikcnkmglbbbaaDoorRows.lean that lists a variable, with what it lists TIED to the program's text (the seventh form; the later family's looks); each row that meets fmt, with fmt's text TOLD by the authors' own Lean function (tested against real Go, not proved from fmt's source: count such statements apart). THE CARD IS WHAT COUNTS. Prove the row's statement (the work); the ties are given (YthikcnkmglbbbaaDoorTie.lean); close each card by the builder's one call (the guide's Derived/Test/ToyasCard.lean, 'card_holds'). Laid BY PROGRAM, IN A SANDBOX (cutbox-door.mjs). By AI agents, Wed Nov 11 2026. No macro, syntax, notation, axiom, sorry.
-/
import Derived.Test.YthikcnkmglbbbaaDoorRows
import GoSem.ClaimSeven
namespace Go.Proofs.YthikcnkmglbbbaaDoor
namespace Rows

/-- THE TIED CARD OF 'plumblinelaw09.ReflectNear'. -/
def reflectNearCard : Claim7 := { stood := { row := reflectNearRow, standIns := [], harness := (true, "209b5e7b6af9990ee9a16db444b35ef48c323d632a0d14634554129fea5dc427"), looks := false }, kinds := [], alts := [], laidByText := true, laidKinds := [.data], laidTests := true, laidLooks := .later }
def ReflectNearCardSaid : Prop := Claim7.holds Tryd.pinned (.plain (OpenSpec.ofChange reflectNearSpec)) reflectNearCard

/-- THE TIED CARD OF 'plumblinelaw19.CertScaled'. -/
def certScaledCard : Claim7 := { stood := { row := certScaledRow, standIns := [], harness := (true, "209b5e7b6af9990ee9a16db444b35ef48c323d632a0d14634554129fea5dc427"), looks := false }, kinds := [], alts := [], laidByText := true, laidKinds := [.data], laidTests := true, laidLooks := .later }
def CertScaledCardSaid : Prop := Claim7.holds Tryd.pinned (.plain (OpenSpec.ofChange certScaledSpec)) certScaledCard

/-- THE TIED CARD OF 'plumblinelaw10.TridiagNear'. -/
def tridiagNearCard : Claim7 := { stood := { row := tridiagNearRow, standIns := [], harness := (true, "209b5e7b6af9990ee9a16db444b35ef48c323d632a0d14634554129fea5dc427"), looks := false }, kinds := [], alts := [], laidByText := true, laidKinds := [.data], laidTests := true, laidLooks := .later }
def TridiagNearCardSaid : Prop := Claim7.holds Tryd.pinned (.plain (OpenSpec.ofChange tridiagNearSpec)) tridiagNearCard

/-- THE TIED CARD OF 'plumblinelaw06.SmallTurns'. -/
def smallTurnsCard : Claim7 := { stood := { row := smallTurnsRow, standIns := [], harness := (true, "209b5e7b6af9990ee9a16db444b35ef48c323d632a0d14634554129fea5dc427"), looks := false }, kinds := [], alts := [], laidByText := true, laidKinds := [.data], laidTests := true, laidLooks := .later }
def SmallTurnsCardSaid : Prop := Claim7.holds Tryd.pinned (.plain (OpenSpec.ofChange smallTurnsSpec)) smallTurnsCard

/-- THE SECOND FORM's CARD OF 'plumblinelaw09.ReflectNear'. -/
def reflectNearUptoCard : Claim7 := { stood := { row := reflectNearUptoRow, standIns := [], harness := (true, "209b5e7b6af9990ee9a16db444b35ef48c323d632a0d14634554129fea5dc427"), looks := false }, kinds := [], alts := [], laidByText := true, laidKinds := [.data], laidTests := true, laidLooks := .later }
def ReflectNearUptoCardSaid : Prop := Claim7.holds Tryd.pinned (.plain (OpenSpec.upto reflectNearSpec)) reflectNearUptoCard

/-- THE SECOND FORM's CARD OF 'plumblinelaw19.CertScaled'. -/
def certScaledUptoCard : Claim7 := { stood := { row := certScaledUptoRow, standIns := [], harness := (true, "209b5e7b6af9990ee9a16db444b35ef48c323d632a0d14634554129fea5dc427"), looks := false }, kinds := [], alts := [], laidByText := true, laidKinds := [.data], laidTests := true, laidLooks := .later }
def CertScaledUptoCardSaid : Prop := Claim7.holds Tryd.pinned (.plain (OpenSpec.upto certScaledSpec)) certScaledUptoCard

/-- THE SECOND FORM's CARD OF 'plumblinelaw10.TridiagNear'. -/
def tridiagNearUptoCard : Claim7 := { stood := { row := tridiagNearUptoRow, standIns := [], harness := (true, "209b5e7b6af9990ee9a16db444b35ef48c323d632a0d14634554129fea5dc427"), looks := false }, kinds := [], alts := [], laidByText := true, laidKinds := [.data], laidTests := true, laidLooks := .later }
def TridiagNearUptoCardSaid : Prop := Claim7.holds Tryd.pinned (.plain (OpenSpec.upto tridiagNearSpec)) tridiagNearUptoCard

/-- THE SECOND FORM's CARD OF 'plumblinelaw06.SmallTurns'. -/
def smallTurnsUptoCard : Claim7 := { stood := { row := smallTurnsUptoRow, standIns := [], harness := (true, "209b5e7b6af9990ee9a16db444b35ef48c323d632a0d14634554129fea5dc427"), looks := false }, kinds := [], alts := [], laidByText := true, laidKinds := [.data], laidTests := true, laidLooks := .later }
def SmallTurnsUptoCardSaid : Prop := Claim7.holds Tryd.pinned (.plain (OpenSpec.upto smallTurnsSpec)) smallTurnsUptoCard
end Rows
end Go.Proofs.YthikcnkmglbbbaaDoor

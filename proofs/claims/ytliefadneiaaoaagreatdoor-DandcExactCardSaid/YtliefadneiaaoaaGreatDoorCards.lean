/-
  DERIVED. GIVEN WITH THE SEED: THE CARDS: each row of YtliefadneiaaoaaGreatDoorRows.lean that lists a variable, with what it lists TIED to the program's text (the seventh form; the later family's looks); each row that meets fmt, with fmt's text TOLD by the authors' own Lean function (tested against real Go, not proved from fmt's source: count such statements apart). THE CARD IS WHAT COUNTS. Prove the row's statement (the work); the ties are given (YtliefadneiaaoaaGreatDoorTie.lean); close each card by the builder's one call (the guide's Derived/Test/ToyasCard.lean, 'card_holds'). Laid BY PROGRAM, IN A SANDBOX (cutbox-door.mjs). By AI agents, Wed Nov 11 2026. No macro, syntax, notation, axiom, sorry.
-/
import Derived.Test.YtliefadneiaaoaaGreatDoorRows
import GoSem.ClaimSeven
namespace Go.Proofs.YtliefadneiaaoaaGreatDoor
namespace Rows

/-- THE TIED CARD OF 'plumblinelaw16.DandcExact'. -/
def dandcExactCard : Claim7 := { stood := { row := dandcExactRow, standIns := [], harness := (true, "791a456484d9c9257c9b138693f79573c3e3a3db1c92191084930b48bec69b92"), looks := false }, kinds := [], alts := [], laidByText := true, laidKinds := [.data], laidTests := true, laidLooks := .later }
def DandcExactCardSaid : Prop := Claim7.holds Tryz.pinned (.plain (OpenSpec.ofChange dandcExactSpec)) dandcExactCard

/-- THE SECOND FORM's CARD OF 'plumblinelaw16.DandcExact'. -/
def dandcExactUptoCard : Claim7 := { stood := { row := dandcExactUptoRow, standIns := [], harness := (true, "791a456484d9c9257c9b138693f79573c3e3a3db1c92191084930b48bec69b92"), looks := false }, kinds := [], alts := [], laidByText := true, laidKinds := [.data], laidTests := true, laidLooks := .later }
def DandcExactUptoCardSaid : Prop := Claim7.holds Tryz.pinned (.plain (OpenSpec.upto dandcExactSpec)) dandcExactUptoCard
end Rows
end Go.Proofs.YtliefadneiaaoaaGreatDoor

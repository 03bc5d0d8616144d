/-
  NARROWER THAN 'FOR EVERY INPUT', by the rows' own cells (each row's printed sentence says how): CertSizes: laid · CertResiduals: laid · CertSym: laid · CertBounds: laid · CertSvd: laid.
  DERIVED. THE GIVEN ROWS OF THIS SEAT. 5 by the template 'for every input the law returns true; each argument reads behind the call as it read before'; 0 by the template 'total and deterministic' (their statements: YthikcnkmglbbbaaGreatDoorTotals.lean).
  GIVEN WITH THE SEED: the statements are not yours to turn. If you find one false, say at which input.
  Laid BY PROGRAM, IN A SANDBOX (cutbox-rows.mjs): the forced cells as the released guide's own fill.sh prints them over the translation 0037ffb09a556e9c… (all of the seat's roots in one cut). By AI agents, Wed Nov 11 2026. No macro, syntax, notation, axiom, sorry.
-/
import Derived.Test.YthikcnkmglbbbaaGreatDoorChecked
import GoSem.Claim
import GoSem.ClaimJoined
import GoSem.ClaimMapViews
import Derived.JoinedTies
import Derived.KernelRfl
namespace Go.Proofs.YthikcnkmglbbbaaGreatDoor
/- THE CELL 'sum', in the pinned program and in every row, IS THE sha256 OF THE DUMP (.gsa) THAT YthikcnkmglbbbaaGreatDoorProg.lean LOADS. Nothing in Lean hashes anything: it is a label: what it is worth is what the hold of that sum in a sandbox is worth. -/
noncomputable def Tryz.pinned : Pinned := { name := "ythikcnkmglbbbaagreatdoor", sum := "0037ffb09a556e9c706b0fffc7579080691b4c2f30611556b0f678a93999532d", checked := Tryz.checked }
namespace Rows
def none {H : Type} : Left H := { results := [], args := [] }

/- WHAT THE LISTED PACKAGE-LEVEL VARIABLES READ AS WHEN THE CALL BEGINS. Each datum BY PROGRAM (the guide's laid-datum.mjs) off the statement by which the dump's own 'gosem.cut.vars' lays the variable. In a bare row this is a premise. The card (YthikcnkmglbbbaaGreatDoorCards.lean) ties it to the program's text. -/
def laid_math_bits_deBruijn64tab {H : Type} : DataW H := .agg [.lit (.int .u8 0), .lit (.int .u8 1), .lit (.int .u8 56), .lit (.int .u8 2), .lit (.int .u8 57), .lit (.int .u8 49), .lit (.int .u8 28), .lit (.int .u8 3), .lit (.int .u8 61), .lit (.int .u8 58), .lit (.int .u8 42), .lit (.int .u8 50), .lit (.int .u8 38), .lit (.int .u8 29), .lit (.int .u8 17), .lit (.int .u8 4), .lit (.int .u8 62), .lit (.int .u8 47), .lit (.int .u8 59), .lit (.int .u8 36), .lit (.int .u8 45), .lit (.int .u8 43), .lit (.int .u8 51), .lit (.int .u8 22), .lit (.int .u8 53), .lit (.int .u8 39), .lit (.int .u8 33), .lit (.int .u8 30), .lit (.int .u8 24), .lit (.int .u8 18), .lit (.int .u8 12), .lit (.int .u8 5), .lit (.int .u8 63), .lit (.int .u8 55), .lit (.int .u8 48), .lit (.int .u8 27), .lit (.int .u8 60), .lit (.int .u8 41), .lit (.int .u8 37), .lit (.int .u8 16), .lit (.int .u8 46), .lit (.int .u8 35), .lit (.int .u8 44), .lit (.int .u8 21), .lit (.int .u8 52), .lit (.int .u8 32), .lit (.int .u8 23), .lit (.int .u8 11), .lit (.int .u8 54), .lit (.int .u8 26), .lit (.int .u8 40), .lit (.int .u8 15), .lit (.int .u8 34), .lit (.int .u8 20), .lit (.int .u8 31), .lit (.int .u8 10), .lit (.int .u8 25), .lit (.int .u8 14), .lit (.int .u8 19), .lit (.int .u8 9), .lit (.int .u8 13), .lit (.int .u8 8), .lit (.int .u8 7), .lit (.int .u8 6)]

/-- 'plumblinelaw19.CertSizes': WHATEVER THE INPUT: true; the input reads as it did. -/
def certSizesSpec : ChangeSpec := { name := "certSizes", fn := fun _ => fun
  | [d] => { results := [.lit (.bool true)], args := [d] }
  | _ => none }
def certSizesRow : OpenClaim := { program := "ythikcnkmglbbbaagreatdoor", sum := "0037ffb09a556e9c706b0fffc7579080691b4c2f30611556b0f678a93999532d", func := "plumbline/plumblinelaw19.CertSizes", spec := "certSizes", inPlace := ["math.Float64bits", "math.Float64frombits", "math/bits.Add64", "math/bits.Sub64"], unfollowed := true, recurses := true, named := ["math/bits.deBruijn64tab"], apart := false, laid := [("math/bits.deBruijn64tab", laid_math_bits_deBruijn64tab)] }
def CertSizesSaid : Prop := certSizesRow.holds Tryz.pinned (OpenSpec.ofChange certSizesSpec)

/-- ITS FALSE NEIGHBOUR: 'it returns false'. Refute it at one input. -/
def certSizesWrong : ChangeSpec := { name := "certSizes", fn := fun _ => fun
  | [d] => { results := [.lit (.bool false)], args := [d] }
  | _ => none }
def CertSizesWrongFalsely : Prop := certSizesRow.holds Tryz.pinned (OpenSpec.ofChange certSizesWrong)

/-- 'plumblinelaw19.CertResiduals': WHATEVER THE INPUT: true; the input reads as it did. -/
def certResidualsSpec : ChangeSpec := { name := "certResiduals", fn := fun _ => fun
  | [d1, d2, d3, d4] => { results := [.lit (.bool true)], args := [d1, d2, d3, d4] }
  | _ => none }
def certResidualsRow : OpenClaim := { program := "ythikcnkmglbbbaagreatdoor", sum := "0037ffb09a556e9c706b0fffc7579080691b4c2f30611556b0f678a93999532d", func := "plumbline/plumblinelaw19.CertResiduals", spec := "certResiduals", inPlace := ["math.Float64bits", "math.Float64frombits", "math/bits.Add64", "math/bits.Sub64"], unfollowed := true, recurses := true, named := ["math/bits.deBruijn64tab"], apart := false, laid := [("math/bits.deBruijn64tab", laid_math_bits_deBruijn64tab)] }
def CertResidualsSaid : Prop := certResidualsRow.holds Tryz.pinned (OpenSpec.ofChange certResidualsSpec)

/-- ITS FALSE NEIGHBOUR: 'it returns false'. Refute it at one input. -/
def certResidualsWrong : ChangeSpec := { name := "certResiduals", fn := fun _ => fun
  | [d1, d2, d3, d4] => { results := [.lit (.bool false)], args := [d1, d2, d3, d4] }
  | _ => none }
def CertResidualsWrongFalsely : Prop := certResidualsRow.holds Tryz.pinned (OpenSpec.ofChange certResidualsWrong)

/-- 'plumblinelaw19.CertSym': WHATEVER THE INPUT: true; the input reads as it did. -/
def certSymSpec : ChangeSpec := { name := "certSym", fn := fun _ => fun
  | [d1, d2, d3] => { results := [.lit (.bool true)], args := [d1, d2, d3] }
  | _ => none }
def certSymRow : OpenClaim := { program := "ythikcnkmglbbbaagreatdoor", sum := "0037ffb09a556e9c706b0fffc7579080691b4c2f30611556b0f678a93999532d", func := "plumbline/plumblinelaw19.CertSym", spec := "certSym", inPlace := ["math.Float64bits", "math.Float64frombits", "math/bits.Add64", "math/bits.Sub64"], unfollowed := true, recurses := true, named := ["math/bits.deBruijn64tab"], apart := false, laid := [("math/bits.deBruijn64tab", laid_math_bits_deBruijn64tab)] }
def CertSymSaid : Prop := certSymRow.holds Tryz.pinned (OpenSpec.ofChange certSymSpec)

/-- ITS FALSE NEIGHBOUR: 'it returns false'. Refute it at one input. -/
def certSymWrong : ChangeSpec := { name := "certSym", fn := fun _ => fun
  | [d1, d2, d3] => { results := [.lit (.bool false)], args := [d1, d2, d3] }
  | _ => none }
def CertSymWrongFalsely : Prop := certSymRow.holds Tryz.pinned (OpenSpec.ofChange certSymWrong)

/-- 'plumblinelaw19.CertBounds': WHATEVER THE INPUT: true; the input reads as it did. -/
def certBoundsSpec : ChangeSpec := { name := "certBounds", fn := fun _ => fun
  | [d1, d2, d3] => { results := [.lit (.bool true)], args := [d1, d2, d3] }
  | _ => none }
def certBoundsRow : OpenClaim := { program := "ythikcnkmglbbbaagreatdoor", sum := "0037ffb09a556e9c706b0fffc7579080691b4c2f30611556b0f678a93999532d", func := "plumbline/plumblinelaw19.CertBounds", spec := "certBounds", inPlace := ["math.Float64bits", "math.Float64frombits", "math/bits.Add64", "math/bits.Sub64"], unfollowed := true, recurses := true, named := ["math/bits.deBruijn64tab"], apart := false, laid := [("math/bits.deBruijn64tab", laid_math_bits_deBruijn64tab)] }
def CertBoundsSaid : Prop := certBoundsRow.holds Tryz.pinned (OpenSpec.ofChange certBoundsSpec)

/-- ITS FALSE NEIGHBOUR: 'it returns false'. Refute it at one input. -/
def certBoundsWrong : ChangeSpec := { name := "certBounds", fn := fun _ => fun
  | [d1, d2, d3] => { results := [.lit (.bool false)], args := [d1, d2, d3] }
  | _ => none }
def CertBoundsWrongFalsely : Prop := certBoundsRow.holds Tryz.pinned (OpenSpec.ofChange certBoundsWrong)

/-- 'plumblinelaw19.CertSvd': WHATEVER THE INPUT: true; the input reads as it did. -/
def certSvdSpec : ChangeSpec := { name := "certSvd", fn := fun _ => fun
  | [d1, d2, d3, d4] => { results := [.lit (.bool true)], args := [d1, d2, d3, d4] }
  | _ => none }
def certSvdRow : OpenClaim := { program := "ythikcnkmglbbbaagreatdoor", sum := "0037ffb09a556e9c706b0fffc7579080691b4c2f30611556b0f678a93999532d", func := "plumbline/plumblinelaw19.CertSvd", spec := "certSvd", inPlace := ["math.Float64bits", "math.Float64frombits", "math/bits.Add64", "math/bits.Sub64"], unfollowed := true, recurses := true, named := ["math/bits.deBruijn64tab"], apart := false, laid := [("math/bits.deBruijn64tab", laid_math_bits_deBruijn64tab)] }
def CertSvdSaid : Prop := certSvdRow.holds Tryz.pinned (OpenSpec.ofChange certSvdSpec)

/-- ITS FALSE NEIGHBOUR: 'it returns false'. Refute it at one input. -/
def certSvdWrong : ChangeSpec := { name := "certSvd", fn := fun _ => fun
  | [d1, d2, d3, d4] => { results := [.lit (.bool false)], args := [d1, d2, d3, d4] }
  | _ => none }
def CertSvdWrongFalsely : Prop := certSvdRow.holds Tryz.pinned (OpenSpec.ofChange certSvdWrong)

/- THE SECOND FORM. 'bulk': how many values and letters a reading holds, each counted each time it is reached (what is shared counts as often as it is met; a slice's spare places count too). A statement '..UptoSaid' is the law's where the arguments, and the package variables that the reading takes, are together of bulk at most 1048576: NARROWER than '..Said'. Prove '..Said' where nothing that the law and all that it calls make is longer than what came in: it says more and counts as full. Else prove '..UptoSaid'. A law counts once. -/
mutual
def uptoBulk {H : Type} : DataW H → Nat
  | .lit (.string bytes) => bytes.length + 1
  | .lit _ => 1
  | .nil => 1
  | .ptr d => uptoBulk d + 1
  | .slice elems spare => uptoBulkAll elems + uptoBulkAll spare + 1
  | .agg parts => uptoBulkAll parts + 1
  | .iface _ d => uptoBulk d + 1
  | .map entries => uptoBulkEntries entries + 1
  | .held _ => 1
def uptoBulkAll {H : Type} : List (DataW H) → Nat
  | [] => 0
  | d :: r => uptoBulk d + uptoBulkAll r
def uptoBulkEntries {H : Type} : List (Lit × DataW H) → Nat
  | [] => 0
  | x :: r => uptoBulkEntry x + uptoBulkEntries r
def uptoBulkEntry {H : Type} : Lit × DataW H → Nat
  | (.string bytes, d) => bytes.length + uptoBulk d + 1
  | (_, d) => uptoBulk d + 1
 end
def uptoSmall : (H : Type) → List (DataW H) → Bool := fun _ ds => decide (uptoBulkAll ds ≤ 1048576)
def OpenSpec.upto (s : _root_.Go.ChangeSpec) : _root_.Go.OpenSpec := { _root_.Go.OpenSpec.ofChange s with cond := some uptoSmall }

/-- 'plumblinelaw19.CertSizes', WHERE WHAT IT READS IS OF BULK AT MOST 1048576: true; the input reads as it did. -/
def certSizesUptoRow : OpenClaim := { program := "ythikcnkmglbbbaagreatdoor", sum := "0037ffb09a556e9c706b0fffc7579080691b4c2f30611556b0f678a93999532d", func := "plumbline/plumblinelaw19.CertSizes", spec := "certSizes", inPlace := ["math.Float64bits", "math.Float64frombits", "math/bits.Add64", "math/bits.Sub64"], unfollowed := true, recurses := true, named := ["math/bits.deBruijn64tab"], apart := false, laid := [("math/bits.deBruijn64tab", laid_math_bits_deBruijn64tab)], narrowed := true }
def CertSizesUptoSaid : Prop := certSizesUptoRow.holds Tryz.pinned (OpenSpec.upto certSizesSpec)

/-- 'plumblinelaw19.CertResiduals', WHERE WHAT IT READS IS OF BULK AT MOST 1048576: true; the input reads as it did. -/
def certResidualsUptoRow : OpenClaim := { program := "ythikcnkmglbbbaagreatdoor", sum := "0037ffb09a556e9c706b0fffc7579080691b4c2f30611556b0f678a93999532d", func := "plumbline/plumblinelaw19.CertResiduals", spec := "certResiduals", inPlace := ["math.Float64bits", "math.Float64frombits", "math/bits.Add64", "math/bits.Sub64"], unfollowed := true, recurses := true, named := ["math/bits.deBruijn64tab"], apart := false, laid := [("math/bits.deBruijn64tab", laid_math_bits_deBruijn64tab)], narrowed := true }
def CertResidualsUptoSaid : Prop := certResidualsUptoRow.holds Tryz.pinned (OpenSpec.upto certResidualsSpec)

/-- 'plumblinelaw19.CertSym', WHERE WHAT IT READS IS OF BULK AT MOST 1048576: true; the input reads as it did. -/
def certSymUptoRow : OpenClaim := { program := "ythikcnkmglbbbaagreatdoor", sum := "0037ffb09a556e9c706b0fffc7579080691b4c2f30611556b0f678a93999532d", func := "plumbline/plumblinelaw19.CertSym", spec := "certSym", inPlace := ["math.Float64bits", "math.Float64frombits", "math/bits.Add64", "math/bits.Sub64"], unfollowed := true, recurses := true, named := ["math/bits.deBruijn64tab"], apart := false, laid := [("math/bits.deBruijn64tab", laid_math_bits_deBruijn64tab)], narrowed := true }
def CertSymUptoSaid : Prop := certSymUptoRow.holds Tryz.pinned (OpenSpec.upto certSymSpec)

/-- 'plumblinelaw19.CertBounds', WHERE WHAT IT READS IS OF BULK AT MOST 1048576: true; the input reads as it did. -/
def certBoundsUptoRow : OpenClaim := { program := "ythikcnkmglbbbaagreatdoor", sum := "0037ffb09a556e9c706b0fffc7579080691b4c2f30611556b0f678a93999532d", func := "plumbline/plumblinelaw19.CertBounds", spec := "certBounds", inPlace := ["math.Float64bits", "math.Float64frombits", "math/bits.Add64", "math/bits.Sub64"], unfollowed := true, recurses := true, named := ["math/bits.deBruijn64tab"], apart := false, laid := [("math/bits.deBruijn64tab", laid_math_bits_deBruijn64tab)], narrowed := true }
def CertBoundsUptoSaid : Prop := certBoundsUptoRow.holds Tryz.pinned (OpenSpec.upto certBoundsSpec)

/-- 'plumblinelaw19.CertSvd', WHERE WHAT IT READS IS OF BULK AT MOST 1048576: true; the input reads as it did. -/
def certSvdUptoRow : OpenClaim := { program := "ythikcnkmglbbbaagreatdoor", sum := "0037ffb09a556e9c706b0fffc7579080691b4c2f30611556b0f678a93999532d", func := "plumbline/plumblinelaw19.CertSvd", spec := "certSvd", inPlace := ["math.Float64bits", "math.Float64frombits", "math/bits.Add64", "math/bits.Sub64"], unfollowed := true, recurses := true, named := ["math/bits.deBruijn64tab"], apart := false, laid := [("math/bits.deBruijn64tab", laid_math_bits_deBruijn64tab)], narrowed := true }
def CertSvdUptoSaid : Prop := certSvdUptoRow.holds Tryz.pinned (OpenSpec.upto certSvdSpec)

end Rows
end Go.Proofs.YthikcnkmglbbbaaGreatDoor

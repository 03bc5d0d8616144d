/-
  NARROWER THAN 'FOR EVERY INPUT', by the rows' own cells (each row's printed sentence says how): SvdWays: laid · SvdCertified: laid · SvdBounds: laid · SvdValues: laid · SvdBidiagonals: laid · RankThresholds: laid · RankCounts: laid · RankRatios: laid · RankInverses: laid · RankSolves: laid · RankFalls: laid · RankBounds: laid.
  DERIVED. THE GIVEN ROWS OF THIS SEAT. 12 by the template 'for every input the law returns true; each argument reads behind the call as it read before'; 0 by the template 'total and deterministic' (their statements: YtcfhbjfbfmlkiaaGreatDoorTotals.lean).
  GIVEN WITH THE SEED: the statements are not yours to turn. If you find one false, say at which input.
  Laid BY PROGRAM, IN A SANDBOX (cutbox-rows.mjs): the forced cells as the released guide's own fill.sh prints them over the translation 0947283d7320e1d0… (all of the seat's roots in one cut). By AI agents, Wed Nov 11 2026. No macro, syntax, notation, axiom, sorry.
-/
import Derived.Test.YtcfhbjfbfmlkiaaGreatDoorChecked
import GoSem.Claim
import GoSem.ClaimJoined
import GoSem.ClaimMapViews
import Derived.JoinedTies
import Derived.KernelRfl
namespace Go.Proofs.YtcfhbjfbfmlkiaaGreatDoor
/- THE CELL 'sum', in the pinned program and in every row, IS THE sha256 OF THE DUMP (.gsa) THAT YtcfhbjfbfmlkiaaGreatDoorProg.lean LOADS. Nothing in Lean hashes anything: it is a label: what it is worth is what the hold of that sum in a sandbox is worth. -/
noncomputable def Tryz.pinned : Pinned := { name := "ytcfhbjfbfmlkiaagreatdoor", sum := "0947283d7320e1d00c89422cd3a5272fb794b54e64c3935923a40c79ba1f2f27", checked := Tryz.checked }
namespace Rows
def none {H : Type} : Left H := { results := [], args := [] }

/- WHAT THE LISTED PACKAGE-LEVEL VARIABLES READ AS WHEN THE CALL BEGINS. Each datum BY PROGRAM (the guide's laid-datum.mjs) off the statement by which the dump's own 'gosem.cut.vars' lays the variable. In a bare row this is a premise. The card (YtcfhbjfbfmlkiaaGreatDoorCards.lean) ties it to the program's text. -/
def laid_math_bits_deBruijn64tab {H : Type} : DataW H := .agg [.lit (.int .u8 0), .lit (.int .u8 1), .lit (.int .u8 56), .lit (.int .u8 2), .lit (.int .u8 57), .lit (.int .u8 49), .lit (.int .u8 28), .lit (.int .u8 3), .lit (.int .u8 61), .lit (.int .u8 58), .lit (.int .u8 42), .lit (.int .u8 50), .lit (.int .u8 38), .lit (.int .u8 29), .lit (.int .u8 17), .lit (.int .u8 4), .lit (.int .u8 62), .lit (.int .u8 47), .lit (.int .u8 59), .lit (.int .u8 36), .lit (.int .u8 45), .lit (.int .u8 43), .lit (.int .u8 51), .lit (.int .u8 22), .lit (.int .u8 53), .lit (.int .u8 39), .lit (.int .u8 33), .lit (.int .u8 30), .lit (.int .u8 24), .lit (.int .u8 18), .lit (.int .u8 12), .lit (.int .u8 5), .lit (.int .u8 63), .lit (.int .u8 55), .lit (.int .u8 48), .lit (.int .u8 27), .lit (.int .u8 60), .lit (.int .u8 41), .lit (.int .u8 37), .lit (.int .u8 16), .lit (.int .u8 46), .lit (.int .u8 35), .lit (.int .u8 44), .lit (.int .u8 21), .lit (.int .u8 52), .lit (.int .u8 32), .lit (.int .u8 23), .lit (.int .u8 11), .lit (.int .u8 54), .lit (.int .u8 26), .lit (.int .u8 40), .lit (.int .u8 15), .lit (.int .u8 34), .lit (.int .u8 20), .lit (.int .u8 31), .lit (.int .u8 10), .lit (.int .u8 25), .lit (.int .u8 14), .lit (.int .u8 19), .lit (.int .u8 9), .lit (.int .u8 13), .lit (.int .u8 8), .lit (.int .u8 7), .lit (.int .u8 6)]

/-- 'plumblinelaw21.SvdWays': WHATEVER THE INPUT: true; the input reads as it did. -/
def svdWaysSpec : ChangeSpec := { name := "svdWays", fn := fun _ => fun
  | [d] => { results := [.lit (.bool true)], args := [d] }
  | _ => none }
def svdWaysRow : OpenClaim := { program := "ytcfhbjfbfmlkiaagreatdoor", sum := "0947283d7320e1d00c89422cd3a5272fb794b54e64c3935923a40c79ba1f2f27", func := "plumbline/plumblinelaw21.SvdWays", spec := "svdWays", inPlace := ["math.Float64bits", "math.Float64frombits", "math.sqrt", "math/bits.Add64", "math/bits.Sub64"], unfollowed := true, recurses := true, named := ["math/bits.deBruijn64tab"], plainKeys := false, apart := false, laid := [("math/bits.deBruijn64tab", laid_math_bits_deBruijn64tab)] }
def SvdWaysSaid : Prop := svdWaysRow.holds Tryz.pinned (OpenSpec.ofChange svdWaysSpec)

/-- ITS FALSE NEIGHBOUR: 'it returns false'. Refute it at one input. -/
def svdWaysWrong : ChangeSpec := { name := "svdWays", fn := fun _ => fun
  | [d] => { results := [.lit (.bool false)], args := [d] }
  | _ => none }
def SvdWaysWrongFalsely : Prop := svdWaysRow.holds Tryz.pinned (OpenSpec.ofChange svdWaysWrong)

/-- 'plumblinelaw21.SvdCertified': WHATEVER THE INPUT: true; the input reads as it did. -/
def svdCertifiedSpec : ChangeSpec := { name := "svdCertified", fn := fun _ => fun
  | [d1, d2, d3, d4] => { results := [.lit (.bool true)], args := [d1, d2, d3, d4] }
  | _ => none }
def svdCertifiedRow : OpenClaim := { program := "ytcfhbjfbfmlkiaagreatdoor", sum := "0947283d7320e1d00c89422cd3a5272fb794b54e64c3935923a40c79ba1f2f27", func := "plumbline/plumblinelaw21.SvdCertified", spec := "svdCertified", inPlace := ["math.Float64bits", "math.Float64frombits", "math.sqrt", "math/bits.Add64", "math/bits.Sub64"], unfollowed := true, recurses := true, named := ["math/bits.deBruijn64tab"], plainKeys := false, apart := false, laid := [("math/bits.deBruijn64tab", laid_math_bits_deBruijn64tab)] }
def SvdCertifiedSaid : Prop := svdCertifiedRow.holds Tryz.pinned (OpenSpec.ofChange svdCertifiedSpec)

/-- ITS FALSE NEIGHBOUR: 'it returns false'. Refute it at one input. -/
def svdCertifiedWrong : ChangeSpec := { name := "svdCertified", fn := fun _ => fun
  | [d1, d2, d3, d4] => { results := [.lit (.bool false)], args := [d1, d2, d3, d4] }
  | _ => none }
def SvdCertifiedWrongFalsely : Prop := svdCertifiedRow.holds Tryz.pinned (OpenSpec.ofChange svdCertifiedWrong)

/-- 'plumblinelaw21.SvdBounds': WHATEVER THE INPUT: true; the input reads as it did. -/
def svdBoundsSpec : ChangeSpec := { name := "svdBounds", fn := fun _ => fun
  | [] => { results := [.lit (.bool true)], args := [] }
  | _ => none }
def svdBoundsRow : OpenClaim := { program := "ytcfhbjfbfmlkiaagreatdoor", sum := "0947283d7320e1d00c89422cd3a5272fb794b54e64c3935923a40c79ba1f2f27", func := "plumbline/plumblinelaw21.SvdBounds", spec := "svdBounds", inPlace := ["math.Float64frombits", "math.Float64bits", "math.sqrt", "math/bits.Add64", "math/bits.Sub64"], unfollowed := true, recurses := true, named := ["math/bits.deBruijn64tab"], plainKeys := false, apart := false, laid := [("math/bits.deBruijn64tab", laid_math_bits_deBruijn64tab)] }
def SvdBoundsSaid : Prop := svdBoundsRow.holds Tryz.pinned (OpenSpec.ofChange svdBoundsSpec)

/-- ITS FALSE NEIGHBOUR: 'it returns false'. Refute it at one input. -/
def svdBoundsWrong : ChangeSpec := { name := "svdBounds", fn := fun _ => fun
  | [] => { results := [.lit (.bool false)], args := [] }
  | _ => none }
def SvdBoundsWrongFalsely : Prop := svdBoundsRow.holds Tryz.pinned (OpenSpec.ofChange svdBoundsWrong)

/-- 'plumblinelaw21.SvdValues': WHATEVER THE INPUT: true; the input reads as it did. -/
def svdValuesSpec : ChangeSpec := { name := "svdValues", fn := fun _ => fun
  | [d1, d2, d3, d4] => { results := [.lit (.bool true)], args := [d1, d2, d3, d4] }
  | _ => none }
def svdValuesRow : OpenClaim := { program := "ytcfhbjfbfmlkiaagreatdoor", sum := "0947283d7320e1d00c89422cd3a5272fb794b54e64c3935923a40c79ba1f2f27", func := "plumbline/plumblinelaw21.SvdValues", spec := "svdValues", inPlace := ["math.Float64bits", "math.Float64frombits", "math.sqrt", "math/bits.Add64", "math/bits.Sub64"], unfollowed := true, recurses := true, named := ["math/bits.deBruijn64tab"], plainKeys := false, apart := false, laid := [("math/bits.deBruijn64tab", laid_math_bits_deBruijn64tab)] }
def SvdValuesSaid : Prop := svdValuesRow.holds Tryz.pinned (OpenSpec.ofChange svdValuesSpec)

/-- ITS FALSE NEIGHBOUR: 'it returns false'. Refute it at one input. -/
def svdValuesWrong : ChangeSpec := { name := "svdValues", fn := fun _ => fun
  | [d1, d2, d3, d4] => { results := [.lit (.bool false)], args := [d1, d2, d3, d4] }
  | _ => none }
def SvdValuesWrongFalsely : Prop := svdValuesRow.holds Tryz.pinned (OpenSpec.ofChange svdValuesWrong)

/-- 'plumblinelaw21.SvdBidiagonals': WHATEVER THE INPUT: true; the input reads as it did. -/
def svdBidiagonalsSpec : ChangeSpec := { name := "svdBidiagonals", fn := fun _ => fun
  | [d1, d2, d3] => { results := [.lit (.bool true)], args := [d1, d2, d3] }
  | _ => none }
def svdBidiagonalsRow : OpenClaim := { program := "ytcfhbjfbfmlkiaagreatdoor", sum := "0947283d7320e1d00c89422cd3a5272fb794b54e64c3935923a40c79ba1f2f27", func := "plumbline/plumblinelaw21.SvdBidiagonals", spec := "svdBidiagonals", inPlace := ["math.Float64bits", "math.Float64frombits", "math.sqrt", "math/bits.Add64", "math/bits.Sub64"], unfollowed := true, recurses := true, named := ["math/bits.deBruijn64tab"], plainKeys := false, apart := false, laid := [("math/bits.deBruijn64tab", laid_math_bits_deBruijn64tab)] }
def SvdBidiagonalsSaid : Prop := svdBidiagonalsRow.holds Tryz.pinned (OpenSpec.ofChange svdBidiagonalsSpec)

/-- ITS FALSE NEIGHBOUR: 'it returns false'. Refute it at one input. -/
def svdBidiagonalsWrong : ChangeSpec := { name := "svdBidiagonals", fn := fun _ => fun
  | [d1, d2, d3] => { results := [.lit (.bool false)], args := [d1, d2, d3] }
  | _ => none }
def SvdBidiagonalsWrongFalsely : Prop := svdBidiagonalsRow.holds Tryz.pinned (OpenSpec.ofChange svdBidiagonalsWrong)

/-- 'plumblinelaw22.RankThresholds': WHATEVER THE INPUT: true; the input reads as it did. -/
def rankThresholdsSpec : ChangeSpec := { name := "rankThresholds", fn := fun _ => fun
  | [d] => { results := [.lit (.bool true)], args := [d] }
  | _ => none }
def rankThresholdsRow : OpenClaim := { program := "ytcfhbjfbfmlkiaagreatdoor", sum := "0947283d7320e1d00c89422cd3a5272fb794b54e64c3935923a40c79ba1f2f27", func := "plumbline/plumblinelaw22.RankThresholds", spec := "rankThresholds", inPlace := ["math.Float64frombits", "math.Float64bits", "math/bits.Add64", "math.sqrt", "math/bits.Sub64"], unfollowed := true, recurses := true, named := ["math/bits.deBruijn64tab"], plainKeys := false, apart := false, laid := [("math/bits.deBruijn64tab", laid_math_bits_deBruijn64tab)] }
def RankThresholdsSaid : Prop := rankThresholdsRow.holds Tryz.pinned (OpenSpec.ofChange rankThresholdsSpec)

/-- ITS FALSE NEIGHBOUR: 'it returns false'. Refute it at one input. -/
def rankThresholdsWrong : ChangeSpec := { name := "rankThresholds", fn := fun _ => fun
  | [d] => { results := [.lit (.bool false)], args := [d] }
  | _ => none }
def RankThresholdsWrongFalsely : Prop := rankThresholdsRow.holds Tryz.pinned (OpenSpec.ofChange rankThresholdsWrong)

/-- 'plumblinelaw22.RankCounts': WHATEVER THE INPUT: true; the input reads as it did. -/
def rankCountsSpec : ChangeSpec := { name := "rankCounts", fn := fun _ => fun
  | [d1, d2] => { results := [.lit (.bool true)], args := [d1, d2] }
  | _ => none }
def rankCountsRow : OpenClaim := { program := "ytcfhbjfbfmlkiaagreatdoor", sum := "0947283d7320e1d00c89422cd3a5272fb794b54e64c3935923a40c79ba1f2f27", func := "plumbline/plumblinelaw22.RankCounts", spec := "rankCounts", inPlace := ["math.Float64bits", "math/bits.Add64", "math.Float64frombits", "math.sqrt", "math/bits.Sub64"], unfollowed := true, recurses := true, named := ["math/bits.deBruijn64tab"], plainKeys := false, apart := false, laid := [("math/bits.deBruijn64tab", laid_math_bits_deBruijn64tab)] }
def RankCountsSaid : Prop := rankCountsRow.holds Tryz.pinned (OpenSpec.ofChange rankCountsSpec)

/-- ITS FALSE NEIGHBOUR: 'it returns false'. Refute it at one input. -/
def rankCountsWrong : ChangeSpec := { name := "rankCounts", fn := fun _ => fun
  | [d1, d2] => { results := [.lit (.bool false)], args := [d1, d2] }
  | _ => none }
def RankCountsWrongFalsely : Prop := rankCountsRow.holds Tryz.pinned (OpenSpec.ofChange rankCountsWrong)

/-- 'plumblinelaw22.RankRatios': WHATEVER THE INPUT: true; the input reads as it did. -/
def rankRatiosSpec : ChangeSpec := { name := "rankRatios", fn := fun _ => fun
  | [d] => { results := [.lit (.bool true)], args := [d] }
  | _ => none }
def rankRatiosRow : OpenClaim := { program := "ytcfhbjfbfmlkiaagreatdoor", sum := "0947283d7320e1d00c89422cd3a5272fb794b54e64c3935923a40c79ba1f2f27", func := "plumbline/plumblinelaw22.RankRatios", spec := "rankRatios", inPlace := ["math.Float64bits", "math/bits.Add64", "math.Float64frombits", "math.sqrt", "math/bits.Sub64"], unfollowed := true, recurses := true, named := ["math/bits.deBruijn64tab"], plainKeys := false, apart := false, laid := [("math/bits.deBruijn64tab", laid_math_bits_deBruijn64tab)] }
def RankRatiosSaid : Prop := rankRatiosRow.holds Tryz.pinned (OpenSpec.ofChange rankRatiosSpec)

/-- ITS FALSE NEIGHBOUR: 'it returns false'. Refute it at one input. -/
def rankRatiosWrong : ChangeSpec := { name := "rankRatios", fn := fun _ => fun
  | [d] => { results := [.lit (.bool false)], args := [d] }
  | _ => none }
def RankRatiosWrongFalsely : Prop := rankRatiosRow.holds Tryz.pinned (OpenSpec.ofChange rankRatiosWrong)

/-- 'plumblinelaw22.RankInverses': WHATEVER THE INPUT: true; the input reads as it did. -/
def rankInversesSpec : ChangeSpec := { name := "rankInverses", fn := fun _ => fun
  | [d1, d2, d3, d4] => { results := [.lit (.bool true)], args := [d1, d2, d3, d4] }
  | _ => none }
def rankInversesRow : OpenClaim := { program := "ytcfhbjfbfmlkiaagreatdoor", sum := "0947283d7320e1d00c89422cd3a5272fb794b54e64c3935923a40c79ba1f2f27", func := "plumbline/plumblinelaw22.RankInverses", spec := "rankInverses", inPlace := ["math.Float64bits", "math/bits.Add64", "math.Float64frombits", "math.sqrt", "math/bits.Sub64"], unfollowed := true, recurses := true, named := ["math/bits.deBruijn64tab"], plainKeys := false, apart := false, laid := [("math/bits.deBruijn64tab", laid_math_bits_deBruijn64tab)] }
def RankInversesSaid : Prop := rankInversesRow.holds Tryz.pinned (OpenSpec.ofChange rankInversesSpec)

/-- ITS FALSE NEIGHBOUR: 'it returns false'. Refute it at one input. -/
def rankInversesWrong : ChangeSpec := { name := "rankInverses", fn := fun _ => fun
  | [d1, d2, d3, d4] => { results := [.lit (.bool false)], args := [d1, d2, d3, d4] }
  | _ => none }
def RankInversesWrongFalsely : Prop := rankInversesRow.holds Tryz.pinned (OpenSpec.ofChange rankInversesWrong)

/-- 'plumblinelaw22.RankSolves': WHATEVER THE INPUT: true; the input reads as it did. -/
def rankSolvesSpec : ChangeSpec := { name := "rankSolves", fn := fun _ => fun
  | [d1, d2, d3, d4, d5] => { results := [.lit (.bool true)], args := [d1, d2, d3, d4, d5] }
  | _ => none }
def rankSolvesRow : OpenClaim := { program := "ytcfhbjfbfmlkiaagreatdoor", sum := "0947283d7320e1d00c89422cd3a5272fb794b54e64c3935923a40c79ba1f2f27", func := "plumbline/plumblinelaw22.RankSolves", spec := "rankSolves", inPlace := ["math.Float64bits", "math/bits.Add64", "math.Float64frombits", "math.sqrt", "math/bits.Sub64"], unfollowed := true, recurses := true, named := ["math/bits.deBruijn64tab"], plainKeys := false, apart := false, laid := [("math/bits.deBruijn64tab", laid_math_bits_deBruijn64tab)] }
def RankSolvesSaid : Prop := rankSolvesRow.holds Tryz.pinned (OpenSpec.ofChange rankSolvesSpec)

/-- ITS FALSE NEIGHBOUR: 'it returns false'. Refute it at one input. -/
def rankSolvesWrong : ChangeSpec := { name := "rankSolves", fn := fun _ => fun
  | [d1, d2, d3, d4, d5] => { results := [.lit (.bool false)], args := [d1, d2, d3, d4, d5] }
  | _ => none }
def RankSolvesWrongFalsely : Prop := rankSolvesRow.holds Tryz.pinned (OpenSpec.ofChange rankSolvesWrong)

/-- 'plumblinelaw22.RankFalls': WHATEVER THE INPUT: true; the input reads as it did. -/
def rankFallsSpec : ChangeSpec := { name := "rankFalls", fn := fun _ => fun
  | [d1, d2, d3, d4] => { results := [.lit (.bool true)], args := [d1, d2, d3, d4] }
  | _ => none }
def rankFallsRow : OpenClaim := { program := "ytcfhbjfbfmlkiaagreatdoor", sum := "0947283d7320e1d00c89422cd3a5272fb794b54e64c3935923a40c79ba1f2f27", func := "plumbline/plumblinelaw22.RankFalls", spec := "rankFalls", inPlace := ["math.Float64bits", "math/bits.Add64", "math.Float64frombits", "math.sqrt", "math/bits.Sub64"], unfollowed := true, recurses := true, named := ["math/bits.deBruijn64tab"], plainKeys := false, apart := false, laid := [("math/bits.deBruijn64tab", laid_math_bits_deBruijn64tab)] }
def RankFallsSaid : Prop := rankFallsRow.holds Tryz.pinned (OpenSpec.ofChange rankFallsSpec)

/-- ITS FALSE NEIGHBOUR: 'it returns false'. Refute it at one input. -/
def rankFallsWrong : ChangeSpec := { name := "rankFalls", fn := fun _ => fun
  | [d1, d2, d3, d4] => { results := [.lit (.bool false)], args := [d1, d2, d3, d4] }
  | _ => none }
def RankFallsWrongFalsely : Prop := rankFallsRow.holds Tryz.pinned (OpenSpec.ofChange rankFallsWrong)

/-- 'plumblinelaw22.RankBounds': WHATEVER THE INPUT: true; the input reads as it did. -/
def rankBoundsSpec : ChangeSpec := { name := "rankBounds", fn := fun _ => fun
  | [] => { results := [.lit (.bool true)], args := [] }
  | _ => none }
def rankBoundsRow : OpenClaim := { program := "ytcfhbjfbfmlkiaagreatdoor", sum := "0947283d7320e1d00c89422cd3a5272fb794b54e64c3935923a40c79ba1f2f27", func := "plumbline/plumblinelaw22.RankBounds", spec := "rankBounds", inPlace := ["math.Float64bits", "math/bits.Add64", "math.Float64frombits", "math.sqrt", "math/bits.Sub64"], unfollowed := true, recurses := true, named := ["math/bits.deBruijn64tab"], plainKeys := false, apart := false, laid := [("math/bits.deBruijn64tab", laid_math_bits_deBruijn64tab)] }
def RankBoundsSaid : Prop := rankBoundsRow.holds Tryz.pinned (OpenSpec.ofChange rankBoundsSpec)

/-- ITS FALSE NEIGHBOUR: 'it returns false'. Refute it at one input. -/
def rankBoundsWrong : ChangeSpec := { name := "rankBounds", fn := fun _ => fun
  | [] => { results := [.lit (.bool false)], args := [] }
  | _ => none }
def RankBoundsWrongFalsely : Prop := rankBoundsRow.holds Tryz.pinned (OpenSpec.ofChange rankBoundsWrong)

/- THE SECOND FORM. 'bulk': how many values and letters a reading holds, each counted each time it is reached (what is shared counts as often as it is met; a slice's spare places count too). A statement '..UptoSaid' is the law's where the arguments, and the package variables that the reading takes, are together of bulk at most 1048576: NARROWER than '..Said'. Prove '..Said' where nothing that the law and all that it calls make is longer than what came in: it says more and counts as full. Else prove '..UptoSaid'. A law counts once. -/
mutual
def uptoBulk {H : Type} : DataW H → Nat
  | .lit (.string bytes) => bytes.length + 1
  | .lit _ => 1
  | .nil => 1
  | .ptr d => uptoBulk d + 1
  | .slice elems spare => uptoBulkAll elems + uptoBulkAll spare + 1
  | .agg parts => uptoBulkAll parts + 1
  | .iface _ d => uptoBulk d + 1
  | .map entries => uptoBulkEntries entries + 1
  | .held _ => 1
def uptoBulkAll {H : Type} : List (DataW H) → Nat
  | [] => 0
  | d :: r => uptoBulk d + uptoBulkAll r
def uptoBulkEntries {H : Type} : List (Lit × DataW H) → Nat
  | [] => 0
  | x :: r => uptoBulkEntry x + uptoBulkEntries r
def uptoBulkEntry {H : Type} : Lit × DataW H → Nat
  | (.string bytes, d) => bytes.length + uptoBulk d + 1
  | (_, d) => uptoBulk d + 1
 end
def uptoSmall : (H : Type) → List (DataW H) → Bool := fun _ ds => decide (uptoBulkAll ds ≤ 1048576)
def OpenSpec.upto (s : _root_.Go.ChangeSpec) : _root_.Go.OpenSpec := { _root_.Go.OpenSpec.ofChange s with cond := some uptoSmall }

/-- 'plumblinelaw21.SvdWays', WHERE WHAT IT READS IS OF BULK AT MOST 1048576: true; the input reads as it did. -/
def svdWaysUptoRow : OpenClaim := { program := "ytcfhbjfbfmlkiaagreatdoor", sum := "0947283d7320e1d00c89422cd3a5272fb794b54e64c3935923a40c79ba1f2f27", func := "plumbline/plumblinelaw21.SvdWays", spec := "svdWays", inPlace := ["math.Float64bits", "math.Float64frombits", "math.sqrt", "math/bits.Add64", "math/bits.Sub64"], unfollowed := true, recurses := true, named := ["math/bits.deBruijn64tab"], plainKeys := false, apart := false, laid := [("math/bits.deBruijn64tab", laid_math_bits_deBruijn64tab)], narrowed := true }
def SvdWaysUptoSaid : Prop := svdWaysUptoRow.holds Tryz.pinned (OpenSpec.upto svdWaysSpec)

/-- 'plumblinelaw21.SvdCertified', WHERE WHAT IT READS IS OF BULK AT MOST 1048576: true; the input reads as it did. -/
def svdCertifiedUptoRow : OpenClaim := { program := "ytcfhbjfbfmlkiaagreatdoor", sum := "0947283d7320e1d00c89422cd3a5272fb794b54e64c3935923a40c79ba1f2f27", func := "plumbline/plumblinelaw21.SvdCertified", spec := "svdCertified", inPlace := ["math.Float64bits", "math.Float64frombits", "math.sqrt", "math/bits.Add64", "math/bits.Sub64"], unfollowed := true, recurses := true, named := ["math/bits.deBruijn64tab"], plainKeys := false, apart := false, laid := [("math/bits.deBruijn64tab", laid_math_bits_deBruijn64tab)], narrowed := true }
def SvdCertifiedUptoSaid : Prop := svdCertifiedUptoRow.holds Tryz.pinned (OpenSpec.upto svdCertifiedSpec)

/-- 'plumblinelaw21.SvdBounds', WHERE WHAT IT READS IS OF BULK AT MOST 1048576: true; the input reads as it did. -/
def svdBoundsUptoRow : OpenClaim := { program := "ytcfhbjfbfmlkiaagreatdoor", sum := "0947283d7320e1d00c89422cd3a5272fb794b54e64c3935923a40c79ba1f2f27", func := "plumbline/plumblinelaw21.SvdBounds", spec := "svdBounds", inPlace := ["math.Float64frombits", "math.Float64bits", "math.sqrt", "math/bits.Add64", "math/bits.Sub64"], unfollowed := true, recurses := true, named := ["math/bits.deBruijn64tab"], plainKeys := false, apart := false, laid := [("math/bits.deBruijn64tab", laid_math_bits_deBruijn64tab)], narrowed := true }
def SvdBoundsUptoSaid : Prop := svdBoundsUptoRow.holds Tryz.pinned (OpenSpec.upto svdBoundsSpec)

/-- 'plumblinelaw21.SvdValues', WHERE WHAT IT READS IS OF BULK AT MOST 1048576: true; the input reads as it did. -/
def svdValuesUptoRow : OpenClaim := { program := "ytcfhbjfbfmlkiaagreatdoor", sum := "0947283d7320e1d00c89422cd3a5272fb794b54e64c3935923a40c79ba1f2f27", func := "plumbline/plumblinelaw21.SvdValues", spec := "svdValues", inPlace := ["math.Float64bits", "math.Float64frombits", "math.sqrt", "math/bits.Add64", "math/bits.Sub64"], unfollowed := true, recurses := true, named := ["math/bits.deBruijn64tab"], plainKeys := false, apart := false, laid := [("math/bits.deBruijn64tab", laid_math_bits_deBruijn64tab)], narrowed := true }
def SvdValuesUptoSaid : Prop := svdValuesUptoRow.holds Tryz.pinned (OpenSpec.upto svdValuesSpec)

/-- 'plumblinelaw21.SvdBidiagonals', WHERE WHAT IT READS IS OF BULK AT MOST 1048576: true; the input reads as it did. -/
def svdBidiagonalsUptoRow : OpenClaim := { program := "ytcfhbjfbfmlkiaagreatdoor", sum := "0947283d7320e1d00c89422cd3a5272fb794b54e64c3935923a40c79ba1f2f27", func := "plumbline/plumblinelaw21.SvdBidiagonals", spec := "svdBidiagonals", inPlace := ["math.Float64bits", "math.Float64frombits", "math.sqrt", "math/bits.Add64", "math/bits.Sub64"], unfollowed := true, recurses := true, named := ["math/bits.deBruijn64tab"], plainKeys := false, apart := false, laid := [("math/bits.deBruijn64tab", laid_math_bits_deBruijn64tab)], narrowed := true }
def SvdBidiagonalsUptoSaid : Prop := svdBidiagonalsUptoRow.holds Tryz.pinned (OpenSpec.upto svdBidiagonalsSpec)

/-- 'plumblinelaw22.RankThresholds', WHERE WHAT IT READS IS OF BULK AT MOST 1048576: true; the input reads as it did. -/
def rankThresholdsUptoRow : OpenClaim := { program := "ytcfhbjfbfmlkiaagreatdoor", sum := "0947283d7320e1d00c89422cd3a5272fb794b54e64c3935923a40c79ba1f2f27", func := "plumbline/plumblinelaw22.RankThresholds", spec := "rankThresholds", inPlace := ["math.Float64frombits", "math.Float64bits", "math/bits.Add64", "math.sqrt", "math/bits.Sub64"], unfollowed := true, recurses := true, named := ["math/bits.deBruijn64tab"], plainKeys := false, apart := false, laid := [("math/bits.deBruijn64tab", laid_math_bits_deBruijn64tab)], narrowed := true }
def RankThresholdsUptoSaid : Prop := rankThresholdsUptoRow.holds Tryz.pinned (OpenSpec.upto rankThresholdsSpec)

/-- 'plumblinelaw22.RankCounts', WHERE WHAT IT READS IS OF BULK AT MOST 1048576: true; the input reads as it did. -/
def rankCountsUptoRow : OpenClaim := { program := "ytcfhbjfbfmlkiaagreatdoor", sum := "0947283d7320e1d00c89422cd3a5272fb794b54e64c3935923a40c79ba1f2f27", func := "plumbline/plumblinelaw22.RankCounts", spec := "rankCounts", inPlace := ["math.Float64bits", "math/bits.Add64", "math.Float64frombits", "math.sqrt", "math/bits.Sub64"], unfollowed := true, recurses := true, named := ["math/bits.deBruijn64tab"], plainKeys := false, apart := false, laid := [("math/bits.deBruijn64tab", laid_math_bits_deBruijn64tab)], narrowed := true }
def RankCountsUptoSaid : Prop := rankCountsUptoRow.holds Tryz.pinned (OpenSpec.upto rankCountsSpec)

/-- 'plumblinelaw22.RankRatios', WHERE WHAT IT READS IS OF BULK AT MOST 1048576: true; the input reads as it did. -/
def rankRatiosUptoRow : OpenClaim := { program := "ytcfhbjfbfmlkiaagreatdoor", sum := "0947283d7320e1d00c89422cd3a5272fb794b54e64c3935923a40c79ba1f2f27", func := "plumbline/plumblinelaw22.RankRatios", spec := "rankRatios", inPlace := ["math.Float64bits", "math/bits.Add64", "math.Float64frombits", "math.sqrt", "math/bits.Sub64"], unfollowed := true, recurses := true, named := ["math/bits.deBruijn64tab"], plainKeys := false, apart := false, laid := [("math/bits.deBruijn64tab", laid_math_bits_deBruijn64tab)], narrowed := true }
def RankRatiosUptoSaid : Prop := rankRatiosUptoRow.holds Tryz.pinned (OpenSpec.upto rankRatiosSpec)

/-- 'plumblinelaw22.RankInverses', WHERE WHAT IT READS IS OF BULK AT MOST 1048576: true; the input reads as it did. -/
def rankInversesUptoRow : OpenClaim := { program := "ytcfhbjfbfmlkiaagreatdoor", sum := "0947283d7320e1d00c89422cd3a5272fb794b54e64c3935923a40c79ba1f2f27", func := "plumbline/plumblinelaw22.RankInverses", spec := "rankInverses", inPlace := ["math.Float64bits", "math/bits.Add64", "math.Float64frombits", "math.sqrt", "math/bits.Sub64"], unfollowed := true, recurses := true, named := ["math/bits.deBruijn64tab"], plainKeys := false, apart := false, laid := [("math/bits.deBruijn64tab", laid_math_bits_deBruijn64tab)], narrowed := true }
def RankInversesUptoSaid : Prop := rankInversesUptoRow.holds Tryz.pinned (OpenSpec.upto rankInversesSpec)

/-- 'plumblinelaw22.RankSolves', WHERE WHAT IT READS IS OF BULK AT MOST 1048576: true; the input reads as it did. -/
def rankSolvesUptoRow : OpenClaim := { program := "ytcfhbjfbfmlkiaagreatdoor", sum := "0947283d7320e1d00c89422cd3a5272fb794b54e64c3935923a40c79ba1f2f27", func := "plumbline/plumblinelaw22.RankSolves", spec := "rankSolves", inPlace := ["math.Float64bits", "math/bits.Add64", "math.Float64frombits", "math.sqrt", "math/bits.Sub64"], unfollowed := true, recurses := true, named := ["math/bits.deBruijn64tab"], plainKeys := false, apart := false, laid := [("math/bits.deBruijn64tab", laid_math_bits_deBruijn64tab)], narrowed := true }
def RankSolvesUptoSaid : Prop := rankSolvesUptoRow.holds Tryz.pinned (OpenSpec.upto rankSolvesSpec)

/-- 'plumblinelaw22.RankFalls', WHERE WHAT IT READS IS OF BULK AT MOST 1048576: true; the input reads as it did. -/
def rankFallsUptoRow : OpenClaim := { program := "ytcfhbjfbfmlkiaagreatdoor", sum := "0947283d7320e1d00c89422cd3a5272fb794b54e64c3935923a40c79ba1f2f27", func := "plumbline/plumblinelaw22.RankFalls", spec := "rankFalls", inPlace := ["math.Float64bits", "math/bits.Add64", "math.Float64frombits", "math.sqrt", "math/bits.Sub64"], unfollowed := true, recurses := true, named := ["math/bits.deBruijn64tab"], plainKeys := false, apart := false, laid := [("math/bits.deBruijn64tab", laid_math_bits_deBruijn64tab)], narrowed := true }
def RankFallsUptoSaid : Prop := rankFallsUptoRow.holds Tryz.pinned (OpenSpec.upto rankFallsSpec)

/-- 'plumblinelaw22.RankBounds', WHERE WHAT IT READS IS OF BULK AT MOST 1048576: true; the input reads as it did. -/
def rankBoundsUptoRow : OpenClaim := { program := "ytcfhbjfbfmlkiaagreatdoor", sum := "0947283d7320e1d00c89422cd3a5272fb794b54e64c3935923a40c79ba1f2f27", func := "plumbline/plumblinelaw22.RankBounds", spec := "rankBounds", inPlace := ["math.Float64bits", "math/bits.Add64", "math.Float64frombits", "math.sqrt", "math/bits.Sub64"], unfollowed := true, recurses := true, named := ["math/bits.deBruijn64tab"], plainKeys := false, apart := false, laid := [("math/bits.deBruijn64tab", laid_math_bits_deBruijn64tab)], narrowed := true }
def RankBoundsUptoSaid : Prop := rankBoundsUptoRow.holds Tryz.pinned (OpenSpec.upto rankBoundsSpec)

end Rows
end Go.Proofs.YtcfhbjfbfmlkiaaGreatDoor

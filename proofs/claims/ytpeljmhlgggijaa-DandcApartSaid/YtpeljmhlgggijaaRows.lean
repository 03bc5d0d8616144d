/-
  No cell of these rows narrows 'for every input' (looked for: loops, veiled, ifaces, maps, wideKeys, modest, calm, conditions, laid).
  DERIVED. THE GIVEN ROWS OF THIS SEAT. 2 by the template 'for every input the law returns true; each argument reads behind the call as it read before'; 0 by the template 'total and deterministic' (their statements: YtpeljmhlgggijaaTotals.lean).
  GIVEN WITH THE SEED: the statements are not yours to turn. If you find one false, say at which input.
  Laid BY PROGRAM, IN A SANDBOX (cutbox-rows.mjs): the forced cells as the released guide's own fill.sh prints them over the translation 9c3758abd6c46b36… (all of the seat's roots in one cut). By AI agents, Wed Nov 11 2026. No macro, syntax, notation, axiom, sorry.
-/
import Derived.Test.YtpeljmhlgggijaaChecked
import GoSem.Claim
import GoSem.ClaimJoined
import GoSem.ClaimMapViews
import Derived.JoinedTies
import Derived.KernelRfl
namespace Go.Proofs.Ytpeljmhlgggijaa
/- THE CELL 'sum', in the pinned program and in every row, IS THE sha256 OF THE DUMP (.gsa) THAT YtpeljmhlgggijaaProg.lean LOADS. Nothing in Lean hashes anything: it is a label: what it is worth is what the hold of that sum in a sandbox is worth. -/
noncomputable def Try.pinned : Pinned := { name := "ytpeljmhlgggijaa", sum := "9c3758abd6c46b36e3ac25a0619e1be409a6f9263265df1293e706206d9d9e08", checked := Try.checked }
namespace Rows
def none {H : Type} : Left H := { results := [], args := [] }

/-- 'plumblinelaw16.DandcApart': WHATEVER THE INPUT: true; the input reads as it did. -/
def dandcApartSpec : ChangeSpec := { name := "dandcApart", fn := fun _ => fun
  | [d1, d2] => { results := [.lit (.bool true)], args := [d1, d2] }
  | _ => none }
def dandcApartRow : OpenClaim := { program := "ytpeljmhlgggijaa", sum := "9c3758abd6c46b36e3ac25a0619e1be409a6f9263265df1293e706206d9d9e08", func := "plumbline/plumblinelaw16.DandcApart", spec := "dandcApart", inPlace := ["math.Float64bits", "math.Float64frombits", "math.sqrt"], unfollowed := true, recurses := true, apart := false }
def DandcApartSaid : Prop := dandcApartRow.holds Try.pinned (OpenSpec.ofChange dandcApartSpec)

/-- ITS FALSE NEIGHBOUR: 'it returns false'. Refute it at one input. -/
def dandcApartWrong : ChangeSpec := { name := "dandcApart", fn := fun _ => fun
  | [d1, d2] => { results := [.lit (.bool false)], args := [d1, d2] }
  | _ => none }
def DandcApartWrongFalsely : Prop := dandcApartRow.holds Try.pinned (OpenSpec.ofChange dandcApartWrong)

/-- 'plumblinelaw16.DandcRises': WHATEVER THE INPUT: true; the input reads as it did. -/
def dandcRisesSpec : ChangeSpec := { name := "dandcRises", fn := fun _ => fun
  | [d] => { results := [.lit (.bool true)], args := [d] }
  | _ => none }
def dandcRisesRow : OpenClaim := { program := "ytpeljmhlgggijaa", sum := "9c3758abd6c46b36e3ac25a0619e1be409a6f9263265df1293e706206d9d9e08", func := "plumbline/plumblinelaw16.DandcRises", spec := "dandcRises", inPlace := ["math.Float64bits", "math.Float64frombits", "math.sqrt"], unfollowed := true, recurses := true, apart := false }
def DandcRisesSaid : Prop := dandcRisesRow.holds Try.pinned (OpenSpec.ofChange dandcRisesSpec)

/-- ITS FALSE NEIGHBOUR: 'it returns false'. Refute it at one input. -/
def dandcRisesWrong : ChangeSpec := { name := "dandcRises", fn := fun _ => fun
  | [d] => { results := [.lit (.bool false)], args := [d] }
  | _ => none }
def DandcRisesWrongFalsely : Prop := dandcRisesRow.holds Try.pinned (OpenSpec.ofChange dandcRisesWrong)

/- THE SECOND FORM. 'bulk': how many values and letters a reading holds, each counted each time it is reached (what is shared counts as often as it is met; a slice's spare places count too). A statement '..UptoSaid' is the law's where the arguments, and the package variables that the reading takes, are together of bulk at most 1048576: NARROWER than '..Said'. Prove '..Said' where nothing that the law and all that it calls make is longer than what came in: it says more and counts as full. Else prove '..UptoSaid'. A law counts once. -/
mutual
def uptoBulk {H : Type} : DataW H → Nat
  | .lit (.string bytes) => bytes.length + 1
  | .lit _ => 1
  | .nil => 1
  | .ptr d => uptoBulk d + 1
  | .slice elems spare => uptoBulkAll elems + uptoBulkAll spare + 1
  | .agg parts => uptoBulkAll parts + 1
  | .iface _ d => uptoBulk d + 1
  | .map entries => uptoBulkEntries entries + 1
  | .held _ => 1
def uptoBulkAll {H : Type} : List (DataW H) → Nat
  | [] => 0
  | d :: r => uptoBulk d + uptoBulkAll r
def uptoBulkEntries {H : Type} : List (Lit × DataW H) → Nat
  | [] => 0
  | x :: r => uptoBulkEntry x + uptoBulkEntries r
def uptoBulkEntry {H : Type} : Lit × DataW H → Nat
  | (.string bytes, d) => bytes.length + uptoBulk d + 1
  | (_, d) => uptoBulk d + 1
 end
def uptoSmall : (H : Type) → List (DataW H) → Bool := fun _ ds => decide (uptoBulkAll ds ≤ 1048576)
def OpenSpec.upto (s : _root_.Go.ChangeSpec) : _root_.Go.OpenSpec := { _root_.Go.OpenSpec.ofChange s with cond := some uptoSmall }

/-- 'plumblinelaw16.DandcApart', WHERE WHAT IT READS IS OF BULK AT MOST 1048576: true; the input reads as it did. -/
def dandcApartUptoRow : OpenClaim := { program := "ytpeljmhlgggijaa", sum := "9c3758abd6c46b36e3ac25a0619e1be409a6f9263265df1293e706206d9d9e08", func := "plumbline/plumblinelaw16.DandcApart", spec := "dandcApart", inPlace := ["math.Float64bits", "math.Float64frombits", "math.sqrt"], unfollowed := true, recurses := true, apart := false, narrowed := true }
def DandcApartUptoSaid : Prop := dandcApartUptoRow.holds Try.pinned (OpenSpec.upto dandcApartSpec)

/-- 'plumblinelaw16.DandcRises', WHERE WHAT IT READS IS OF BULK AT MOST 1048576: true; the input reads as it did. -/
def dandcRisesUptoRow : OpenClaim := { program := "ytpeljmhlgggijaa", sum := "9c3758abd6c46b36e3ac25a0619e1be409a6f9263265df1293e706206d9d9e08", func := "plumbline/plumblinelaw16.DandcRises", spec := "dandcRises", inPlace := ["math.Float64bits", "math.Float64frombits", "math.sqrt"], unfollowed := true, recurses := true, apart := false, narrowed := true }
def DandcRisesUptoSaid : Prop := dandcRisesUptoRow.holds Try.pinned (OpenSpec.upto dandcRisesSpec)

end Rows
end Go.Proofs.Ytpeljmhlgggijaa

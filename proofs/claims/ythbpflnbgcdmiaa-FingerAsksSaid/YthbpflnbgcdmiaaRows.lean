/-
  No cell of these rows narrows 'for every input' (looked for: loops, veiled, ifaces, maps, wideKeys, modest, calm, conditions, laid).
  DERIVED. THE GIVEN ROWS OF THIS SEAT. 6 by the template 'for every input the law returns true; each argument reads behind the call as it read before'; 0 by the template 'total and deterministic' (their statements: YthbpflnbgcdmiaaTotals.lean).
  GIVEN WITH THE SEED: the statements are not yours to turn. If you find one false, say at which input.
  Laid BY PROGRAM, IN A SANDBOX (cutbox-rows.mjs): the forced cells as the released guide's own fill.sh prints them over the translation 7f4f44aec14f91b0… (all of the seat's roots in one cut). By AI agents, Wed Nov 11 2026. No macro, syntax, notation, axiom, sorry.
-/
import Derived.Test.YthbpflnbgcdmiaaChecked
import GoSem.Claim
import GoSem.ClaimJoined
import GoSem.ClaimMapViews
import Derived.JoinedTies
import Derived.KernelRfl
namespace Go.Proofs.Ythbpflnbgcdmiaa
/- THE CELL 'sum', in the pinned program and in every row, IS THE sha256 OF THE DUMP (.gsa) THAT YthbpflnbgcdmiaaProg.lean LOADS. Nothing in Lean hashes anything: it is a label: what it is worth is what the hold of that sum in a sandbox is worth. -/
noncomputable def Try.pinned : Pinned := { name := "ythbpflnbgcdmiaa", sum := "7f4f44aec14f91b0836adbecd48a69f83c103e10fed2781ce3420aadd8562c2d", checked := Try.checked }
namespace Rows
def none {H : Type} : Left H := { results := [], args := [] }

/-- 'erewhilelaw21.FingerPlays': WHATEVER THE INPUT: true; the input reads as it did. -/
def fingerPlaysSpec : ChangeSpec := { name := "fingerPlays", fn := fun _ => fun
  | [d1, d2, d3] => { results := [.lit (.bool true)], args := [d1, d2, d3] }
  | _ => none }
def fingerPlaysRow : OpenClaim := { program := "ythbpflnbgcdmiaa", sum := "7f4f44aec14f91b0836adbecd48a69f83c103e10fed2781ce3420aadd8562c2d", func := "erewhile/erewhilelaw21.FingerPlays", spec := "fingerPlays", inPlace := ["slices.overlaps[uint64]"], unfollowed := true, recurses := true, plainKeys := false, apart := false }
def FingerPlaysSaid : Prop := fingerPlaysRow.holds Try.pinned (OpenSpec.ofChange fingerPlaysSpec)

/-- ITS FALSE NEIGHBOUR: 'it returns false'. Refute it at one input. -/
def fingerPlaysWrong : ChangeSpec := { name := "fingerPlays", fn := fun _ => fun
  | [d1, d2, d3] => { results := [.lit (.bool false)], args := [d1, d2, d3] }
  | _ => none }
def FingerPlaysWrongFalsely : Prop := fingerPlaysRow.holds Try.pinned (OpenSpec.ofChange fingerPlaysWrong)

/-- 'erewhilelaw21.FingerFinds': WHATEVER THE INPUT: true; the input reads as it did. -/
def fingerFindsSpec : ChangeSpec := { name := "fingerFinds", fn := fun _ => fun
  | [d1, d2] => { results := [.lit (.bool true)], args := [d1, d2] }
  | _ => none }
def fingerFindsRow : OpenClaim := { program := "ythbpflnbgcdmiaa", sum := "7f4f44aec14f91b0836adbecd48a69f83c103e10fed2781ce3420aadd8562c2d", func := "erewhile/erewhilelaw21.FingerFinds", spec := "fingerFinds", inPlace := ["slices.overlaps[uint64]"], unfollowed := true, recurses := true, plainKeys := false, apart := false }
def FingerFindsSaid : Prop := fingerFindsRow.holds Try.pinned (OpenSpec.ofChange fingerFindsSpec)

/-- ITS FALSE NEIGHBOUR: 'it returns false'. Refute it at one input. -/
def fingerFindsWrong : ChangeSpec := { name := "fingerFinds", fn := fun _ => fun
  | [d1, d2] => { results := [.lit (.bool false)], args := [d1, d2] }
  | _ => none }
def FingerFindsWrongFalsely : Prop := fingerFindsRow.holds Try.pinned (OpenSpec.ofChange fingerFindsWrong)

/-- 'erewhilelaw21.FingerAsks': WHATEVER THE INPUT: true; the input reads as it did. -/
def fingerAsksSpec : ChangeSpec := { name := "fingerAsks", fn := fun _ => fun
  | [d1, d2] => { results := [.lit (.bool true)], args := [d1, d2] }
  | _ => none }
def fingerAsksRow : OpenClaim := { program := "ythbpflnbgcdmiaa", sum := "7f4f44aec14f91b0836adbecd48a69f83c103e10fed2781ce3420aadd8562c2d", func := "erewhile/erewhilelaw21.FingerAsks", spec := "fingerAsks", inPlace := ["slices.overlaps[uint64]"], unfollowed := true, recurses := true, plainKeys := false, apart := false }
def FingerAsksSaid : Prop := fingerAsksRow.holds Try.pinned (OpenSpec.ofChange fingerAsksSpec)

/-- ITS FALSE NEIGHBOUR: 'it returns false'. Refute it at one input. -/
def fingerAsksWrong : ChangeSpec := { name := "fingerAsks", fn := fun _ => fun
  | [d1, d2] => { results := [.lit (.bool false)], args := [d1, d2] }
  | _ => none }
def FingerAsksWrongFalsely : Prop := fingerAsksRow.holds Try.pinned (OpenSpec.ofChange fingerAsksWrong)

/-- 'erewhilelaw21.FingerNone': WHATEVER THE INPUT: true; the input reads as it did. -/
def fingerNoneSpec : ChangeSpec := { name := "fingerNone", fn := fun _ => fun
  | [d1, d2, d3] => { results := [.lit (.bool true)], args := [d1, d2, d3] }
  | _ => none }
def fingerNoneRow : OpenClaim := { program := "ythbpflnbgcdmiaa", sum := "7f4f44aec14f91b0836adbecd48a69f83c103e10fed2781ce3420aadd8562c2d", func := "erewhile/erewhilelaw21.FingerNone", spec := "fingerNone", inPlace := ["slices.overlaps[uint64]"], unfollowed := true, recurses := true, plainKeys := false, apart := false }
def FingerNoneSaid : Prop := fingerNoneRow.holds Try.pinned (OpenSpec.ofChange fingerNoneSpec)

/-- ITS FALSE NEIGHBOUR: 'it returns false'. Refute it at one input. -/
def fingerNoneWrong : ChangeSpec := { name := "fingerNone", fn := fun _ => fun
  | [d1, d2, d3] => { results := [.lit (.bool false)], args := [d1, d2, d3] }
  | _ => none }
def FingerNoneWrongFalsely : Prop := fingerNoneRow.holds Try.pinned (OpenSpec.ofChange fingerNoneWrong)

/-- 'erewhilelaw21.FingerTurned': WHATEVER THE INPUT: true; the input reads as it did. -/
def fingerTurnedSpec : ChangeSpec := { name := "fingerTurned", fn := fun _ => fun
  | [d1, d2, d3] => { results := [.lit (.bool true)], args := [d1, d2, d3] }
  | _ => none }
def fingerTurnedRow : OpenClaim := { program := "ythbpflnbgcdmiaa", sum := "7f4f44aec14f91b0836adbecd48a69f83c103e10fed2781ce3420aadd8562c2d", func := "erewhile/erewhilelaw21.FingerTurned", spec := "fingerTurned", inPlace := ["slices.overlaps[uint64]"], unfollowed := true, recurses := true, plainKeys := false, apart := false }
def FingerTurnedSaid : Prop := fingerTurnedRow.holds Try.pinned (OpenSpec.ofChange fingerTurnedSpec)

/-- ITS FALSE NEIGHBOUR: 'it returns false'. Refute it at one input. -/
def fingerTurnedWrong : ChangeSpec := { name := "fingerTurned", fn := fun _ => fun
  | [d1, d2, d3] => { results := [.lit (.bool false)], args := [d1, d2, d3] }
  | _ => none }
def FingerTurnedWrongFalsely : Prop := fingerTurnedRow.holds Try.pinned (OpenSpec.ofChange fingerTurnedWrong)

/-- 'erewhilelaw21.FingerMoves': WHATEVER THE INPUT: true; the input reads as it did. -/
def fingerMovesSpec : ChangeSpec := { name := "fingerMoves", fn := fun _ => fun
  | [d1, d2, d3, d4, d5] => { results := [.lit (.bool true)], args := [d1, d2, d3, d4, d5] }
  | _ => none }
def fingerMovesRow : OpenClaim := { program := "ythbpflnbgcdmiaa", sum := "7f4f44aec14f91b0836adbecd48a69f83c103e10fed2781ce3420aadd8562c2d", func := "erewhile/erewhilelaw21.FingerMoves", spec := "fingerMoves", inPlace := ["slices.overlaps[uint64]"], unfollowed := true, recurses := true, plainKeys := false, apart := false }
def FingerMovesSaid : Prop := fingerMovesRow.holds Try.pinned (OpenSpec.ofChange fingerMovesSpec)

/-- ITS FALSE NEIGHBOUR: 'it returns false'. Refute it at one input. -/
def fingerMovesWrong : ChangeSpec := { name := "fingerMoves", fn := fun _ => fun
  | [d1, d2, d3, d4, d5] => { results := [.lit (.bool false)], args := [d1, d2, d3, d4, d5] }
  | _ => none }
def FingerMovesWrongFalsely : Prop := fingerMovesRow.holds Try.pinned (OpenSpec.ofChange fingerMovesWrong)

/- THE SECOND FORM. 'bulk': how many values and letters a reading holds, each counted each time it is reached (what is shared counts as often as it is met; a slice's spare places count too). A statement '..UptoSaid' is the law's where the arguments, and the package variables that the reading takes, are together of bulk at most 1048576: NARROWER than '..Said'. Prove '..Said' where nothing that the law and all that it calls make is longer than what came in: it says more and counts as full. Else prove '..UptoSaid'. A law counts once. -/
mutual
def uptoBulk {H : Type} : DataW H → Nat
  | .lit (.string bytes) => bytes.length + 1
  | .lit _ => 1
  | .nil => 1
  | .ptr d => uptoBulk d + 1
  | .slice elems spare => uptoBulkAll elems + uptoBulkAll spare + 1
  | .agg parts => uptoBulkAll parts + 1
  | .iface _ d => uptoBulk d + 1
  | .map entries => uptoBulkEntries entries + 1
  | .held _ => 1
def uptoBulkAll {H : Type} : List (DataW H) → Nat
  | [] => 0
  | d :: r => uptoBulk d + uptoBulkAll r
def uptoBulkEntries {H : Type} : List (Lit × DataW H) → Nat
  | [] => 0
  | x :: r => uptoBulkEntry x + uptoBulkEntries r
def uptoBulkEntry {H : Type} : Lit × DataW H → Nat
  | (.string bytes, d) => bytes.length + uptoBulk d + 1
  | (_, d) => uptoBulk d + 1
 end
def uptoSmall : (H : Type) → List (DataW H) → Bool := fun _ ds => decide (uptoBulkAll ds ≤ 1048576)
def OpenSpec.upto (s : _root_.Go.ChangeSpec) : _root_.Go.OpenSpec := { _root_.Go.OpenSpec.ofChange s with cond := some uptoSmall }

/-- 'erewhilelaw21.FingerPlays', WHERE WHAT IT READS IS OF BULK AT MOST 1048576: true; the input reads as it did. -/
def fingerPlaysUptoRow : OpenClaim := { program := "ythbpflnbgcdmiaa", sum := "7f4f44aec14f91b0836adbecd48a69f83c103e10fed2781ce3420aadd8562c2d", func := "erewhile/erewhilelaw21.FingerPlays", spec := "fingerPlays", inPlace := ["slices.overlaps[uint64]"], unfollowed := true, recurses := true, plainKeys := false, apart := false, narrowed := true }
def FingerPlaysUptoSaid : Prop := fingerPlaysUptoRow.holds Try.pinned (OpenSpec.upto fingerPlaysSpec)

/-- 'erewhilelaw21.FingerFinds', WHERE WHAT IT READS IS OF BULK AT MOST 1048576: true; the input reads as it did. -/
def fingerFindsUptoRow : OpenClaim := { program := "ythbpflnbgcdmiaa", sum := "7f4f44aec14f91b0836adbecd48a69f83c103e10fed2781ce3420aadd8562c2d", func := "erewhile/erewhilelaw21.FingerFinds", spec := "fingerFinds", inPlace := ["slices.overlaps[uint64]"], unfollowed := true, recurses := true, plainKeys := false, apart := false, narrowed := true }
def FingerFindsUptoSaid : Prop := fingerFindsUptoRow.holds Try.pinned (OpenSpec.upto fingerFindsSpec)

/-- 'erewhilelaw21.FingerAsks', WHERE WHAT IT READS IS OF BULK AT MOST 1048576: true; the input reads as it did. -/
def fingerAsksUptoRow : OpenClaim := { program := "ythbpflnbgcdmiaa", sum := "7f4f44aec14f91b0836adbecd48a69f83c103e10fed2781ce3420aadd8562c2d", func := "erewhile/erewhilelaw21.FingerAsks", spec := "fingerAsks", inPlace := ["slices.overlaps[uint64]"], unfollowed := true, recurses := true, plainKeys := false, apart := false, narrowed := true }
def FingerAsksUptoSaid : Prop := fingerAsksUptoRow.holds Try.pinned (OpenSpec.upto fingerAsksSpec)

/-- 'erewhilelaw21.FingerNone', WHERE WHAT IT READS IS OF BULK AT MOST 1048576: true; the input reads as it did. -/
def fingerNoneUptoRow : OpenClaim := { program := "ythbpflnbgcdmiaa", sum := "7f4f44aec14f91b0836adbecd48a69f83c103e10fed2781ce3420aadd8562c2d", func := "erewhile/erewhilelaw21.FingerNone", spec := "fingerNone", inPlace := ["slices.overlaps[uint64]"], unfollowed := true, recurses := true, plainKeys := false, apart := false, narrowed := true }
def FingerNoneUptoSaid : Prop := fingerNoneUptoRow.holds Try.pinned (OpenSpec.upto fingerNoneSpec)

/-- 'erewhilelaw21.FingerTurned', WHERE WHAT IT READS IS OF BULK AT MOST 1048576: true; the input reads as it did. -/
def fingerTurnedUptoRow : OpenClaim := { program := "ythbpflnbgcdmiaa", sum := "7f4f44aec14f91b0836adbecd48a69f83c103e10fed2781ce3420aadd8562c2d", func := "erewhile/erewhilelaw21.FingerTurned", spec := "fingerTurned", inPlace := ["slices.overlaps[uint64]"], unfollowed := true, recurses := true, plainKeys := false, apart := false, narrowed := true }
def FingerTurnedUptoSaid : Prop := fingerTurnedUptoRow.holds Try.pinned (OpenSpec.upto fingerTurnedSpec)

/-- 'erewhilelaw21.FingerMoves', WHERE WHAT IT READS IS OF BULK AT MOST 1048576: true; the input reads as it did. -/
def fingerMovesUptoRow : OpenClaim := { program := "ythbpflnbgcdmiaa", sum := "7f4f44aec14f91b0836adbecd48a69f83c103e10fed2781ce3420aadd8562c2d", func := "erewhile/erewhilelaw21.FingerMoves", spec := "fingerMoves", inPlace := ["slices.overlaps[uint64]"], unfollowed := true, recurses := true, plainKeys := false, apart := false, narrowed := true }
def FingerMovesUptoSaid : Prop := fingerMovesUptoRow.holds Try.pinned (OpenSpec.upto fingerMovesSpec)

end Rows
end Go.Proofs.Ythbpflnbgcdmiaa

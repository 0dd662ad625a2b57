/-
  No cell of these rows narrows 'for every input' (looked for: loops, veiled, ifaces, maps, wideKeys, modest, calm, conditions, laid).
  DERIVED. THE GIVEN ROWS OF THIS SEAT. 6 by the template 'for every input the law returns true; each argument reads behind the call as it read before'; 0 by the template 'total and deterministic' (their statements: YtelelglnbopgmaaTotals.lean).
  GIVEN WITH THE SEED: the statements are not yours to turn. If you find one false, say at which input.
  Laid BY PROGRAM, IN A SANDBOX (cutbox-rows.mjs): the forced cells as the released guide's own fill.sh prints them over the translation 7d64b1f15e84ecc8… (all of the seat's roots in one cut). By AI agents, Wed Nov 11 2026. No macro, syntax, notation, axiom, sorry.
-/
import Derived.Test.YtelelglnbopgmaaChecked
import GoSem.Claim
import GoSem.ClaimJoined
import GoSem.ClaimMapViews
import Derived.JoinedTies
import Derived.KernelRfl
namespace Go.Proofs.Ytelelglnbopgmaa
/- THE CELL 'sum', in the pinned program and in every row, IS THE sha256 OF THE DUMP (.gsa) THAT YtelelglnbopgmaaProg.lean LOADS. Nothing in Lean hashes anything: it is a label: what it is worth is what the hold of that sum in a sandbox is worth. -/
noncomputable def Try.pinned : Pinned := { name := "ytelelglnbopgmaa", sum := "7d64b1f15e84ecc89d4be0b21ebeab4c520f35bfa0ed26a6caf74c136db4e585", checked := Try.checked }
namespace Rows
def none {H : Type} : Left H := { results := [], args := [] }

/-- 'erewhilelaw22.DeltaMakes': WHATEVER THE INPUT: true; the input reads as it did. -/
def deltaMakesSpec : ChangeSpec := { name := "deltaMakes", fn := fun _ => fun
  | [d1, d2] => { results := [.lit (.bool true)], args := [d1, d2] }
  | _ => none }
def deltaMakesRow : OpenClaim := { program := "ytelelglnbopgmaa", sum := "7d64b1f15e84ecc89d4be0b21ebeab4c520f35bfa0ed26a6caf74c136db4e585", func := "erewhile/erewhilelaw22.DeltaMakes", spec := "deltaMakes", unfollowed := true, recurses := true, apart := false }
def DeltaMakesSaid : Prop := deltaMakesRow.holds Try.pinned (OpenSpec.ofChange deltaMakesSpec)

/-- ITS FALSE NEIGHBOUR: 'it returns false'. Refute it at one input. -/
def deltaMakesWrong : ChangeSpec := { name := "deltaMakes", fn := fun _ => fun
  | [d1, d2] => { results := [.lit (.bool false)], args := [d1, d2] }
  | _ => none }
def DeltaMakesWrongFalsely : Prop := deltaMakesRow.holds Try.pinned (OpenSpec.ofChange deltaMakesWrong)

/-- 'erewhilelaw22.DeltaBack': WHATEVER THE INPUT: true; the input reads as it did. -/
def deltaBackSpec : ChangeSpec := { name := "deltaBack", fn := fun _ => fun
  | [d1, d2] => { results := [.lit (.bool true)], args := [d1, d2] }
  | _ => none }
def deltaBackRow : OpenClaim := { program := "ytelelglnbopgmaa", sum := "7d64b1f15e84ecc89d4be0b21ebeab4c520f35bfa0ed26a6caf74c136db4e585", func := "erewhile/erewhilelaw22.DeltaBack", spec := "deltaBack", unfollowed := true, recurses := true, apart := false }
def DeltaBackSaid : Prop := deltaBackRow.holds Try.pinned (OpenSpec.ofChange deltaBackSpec)

/-- ITS FALSE NEIGHBOUR: 'it returns false'. Refute it at one input. -/
def deltaBackWrong : ChangeSpec := { name := "deltaBack", fn := fun _ => fun
  | [d1, d2] => { results := [.lit (.bool false)], args := [d1, d2] }
  | _ => none }
def DeltaBackWrongFalsely : Prop := deltaBackRow.holds Try.pinned (OpenSpec.ofChange deltaBackWrong)

/-- 'erewhilelaw22.DeltaTwice': WHATEVER THE INPUT: true; the input reads as it did. -/
def deltaTwiceSpec : ChangeSpec := { name := "deltaTwice", fn := fun _ => fun
  | [d1, d2] => { results := [.lit (.bool true)], args := [d1, d2] }
  | _ => none }
def deltaTwiceRow : OpenClaim := { program := "ytelelglnbopgmaa", sum := "7d64b1f15e84ecc89d4be0b21ebeab4c520f35bfa0ed26a6caf74c136db4e585", func := "erewhile/erewhilelaw22.DeltaTwice", spec := "deltaTwice", unfollowed := true, recurses := true, apart := false }
def DeltaTwiceSaid : Prop := deltaTwiceRow.holds Try.pinned (OpenSpec.ofChange deltaTwiceSpec)

/-- ITS FALSE NEIGHBOUR: 'it returns false'. Refute it at one input. -/
def deltaTwiceWrong : ChangeSpec := { name := "deltaTwice", fn := fun _ => fun
  | [d1, d2] => { results := [.lit (.bool false)], args := [d1, d2] }
  | _ => none }
def DeltaTwiceWrongFalsely : Prop := deltaTwiceRow.holds Try.pinned (OpenSpec.ofChange deltaTwiceWrong)

/-- 'erewhilelaw22.DeltaNone': WHATEVER THE INPUT: true; the input reads as it did. -/
def deltaNoneSpec : ChangeSpec := { name := "deltaNone", fn := fun _ => fun
  | [d] => { results := [.lit (.bool true)], args := [d] }
  | _ => none }
def deltaNoneRow : OpenClaim := { program := "ytelelglnbopgmaa", sum := "7d64b1f15e84ecc89d4be0b21ebeab4c520f35bfa0ed26a6caf74c136db4e585", func := "erewhile/erewhilelaw22.DeltaNone", spec := "deltaNone", unfollowed := true, recurses := true, apart := false }
def DeltaNoneSaid : Prop := deltaNoneRow.holds Try.pinned (OpenSpec.ofChange deltaNoneSpec)

/-- ITS FALSE NEIGHBOUR: 'it returns false'. Refute it at one input. -/
def deltaNoneWrong : ChangeSpec := { name := "deltaNone", fn := fun _ => fun
  | [d] => { results := [.lit (.bool false)], args := [d] }
  | _ => none }
def DeltaNoneWrongFalsely : Prop := deltaNoneRow.holds Try.pinned (OpenSpec.ofChange deltaNoneWrong)

/-- 'erewhilelaw22.DeltaTurned': WHATEVER THE INPUT: true; the input reads as it did. -/
def deltaTurnedSpec : ChangeSpec := { name := "deltaTurned", fn := fun _ => fun
  | [d1, d2] => { results := [.lit (.bool true)], args := [d1, d2] }
  | _ => none }
def deltaTurnedRow : OpenClaim := { program := "ytelelglnbopgmaa", sum := "7d64b1f15e84ecc89d4be0b21ebeab4c520f35bfa0ed26a6caf74c136db4e585", func := "erewhile/erewhilelaw22.DeltaTurned", spec := "deltaTurned", unfollowed := true, recurses := true, apart := false }
def DeltaTurnedSaid : Prop := deltaTurnedRow.holds Try.pinned (OpenSpec.ofChange deltaTurnedSpec)

/-- ITS FALSE NEIGHBOUR: 'it returns false'. Refute it at one input. -/
def deltaTurnedWrong : ChangeSpec := { name := "deltaTurned", fn := fun _ => fun
  | [d1, d2] => { results := [.lit (.bool false)], args := [d1, d2] }
  | _ => none }
def DeltaTurnedWrongFalsely : Prop := deltaTurnedRow.holds Try.pinned (OpenSpec.ofChange deltaTurnedWrong)

/-- 'erewhilelaw22.DeltaWay': WHATEVER THE INPUT: true; the input reads as it did. -/
def deltaWaySpec : ChangeSpec := { name := "deltaWay", fn := fun _ => fun
  | [d1, d2, d3] => { results := [.lit (.bool true)], args := [d1, d2, d3] }
  | _ => none }
def deltaWayRow : OpenClaim := { program := "ytelelglnbopgmaa", sum := "7d64b1f15e84ecc89d4be0b21ebeab4c520f35bfa0ed26a6caf74c136db4e585", func := "erewhile/erewhilelaw22.DeltaWay", spec := "deltaWay", unfollowed := true, recurses := true, apart := false }
def DeltaWaySaid : Prop := deltaWayRow.holds Try.pinned (OpenSpec.ofChange deltaWaySpec)

/-- ITS FALSE NEIGHBOUR: 'it returns false'. Refute it at one input. -/
def deltaWayWrong : ChangeSpec := { name := "deltaWay", fn := fun _ => fun
  | [d1, d2, d3] => { results := [.lit (.bool false)], args := [d1, d2, d3] }
  | _ => none }
def DeltaWayWrongFalsely : Prop := deltaWayRow.holds Try.pinned (OpenSpec.ofChange deltaWayWrong)

/- THE SECOND FORM. 'bulk': how many values and letters a reading holds, each counted each time it is reached (what is shared counts as often as it is met; a slice's spare places count too). A statement '..UptoSaid' is the law's where the arguments, and the package variables that the reading takes, are together of bulk at most 1048576: NARROWER than '..Said'. Prove '..Said' where nothing that the law and all that it calls make is longer than what came in: it says more and counts as full. Else prove '..UptoSaid'. A law counts once. -/
mutual
def uptoBulk {H : Type} : DataW H → Nat
  | .lit (.string bytes) => bytes.length + 1
  | .lit _ => 1
  | .nil => 1
  | .ptr d => uptoBulk d + 1
  | .slice elems spare => uptoBulkAll elems + uptoBulkAll spare + 1
  | .agg parts => uptoBulkAll parts + 1
  | .iface _ d => uptoBulk d + 1
  | .map entries => uptoBulkEntries entries + 1
  | .held _ => 1
def uptoBulkAll {H : Type} : List (DataW H) → Nat
  | [] => 0
  | d :: r => uptoBulk d + uptoBulkAll r
def uptoBulkEntries {H : Type} : List (Lit × DataW H) → Nat
  | [] => 0
  | x :: r => uptoBulkEntry x + uptoBulkEntries r
def uptoBulkEntry {H : Type} : Lit × DataW H → Nat
  | (.string bytes, d) => bytes.length + uptoBulk d + 1
  | (_, d) => uptoBulk d + 1
 end
def uptoSmall : (H : Type) → List (DataW H) → Bool := fun _ ds => decide (uptoBulkAll ds ≤ 1048576)
def OpenSpec.upto (s : _root_.Go.ChangeSpec) : _root_.Go.OpenSpec := { _root_.Go.OpenSpec.ofChange s with cond := some uptoSmall }

/-- 'erewhilelaw22.DeltaMakes', WHERE WHAT IT READS IS OF BULK AT MOST 1048576: true; the input reads as it did. -/
def deltaMakesUptoRow : OpenClaim := { program := "ytelelglnbopgmaa", sum := "7d64b1f15e84ecc89d4be0b21ebeab4c520f35bfa0ed26a6caf74c136db4e585", func := "erewhile/erewhilelaw22.DeltaMakes", spec := "deltaMakes", unfollowed := true, recurses := true, apart := false, narrowed := true }
def DeltaMakesUptoSaid : Prop := deltaMakesUptoRow.holds Try.pinned (OpenSpec.upto deltaMakesSpec)

/-- 'erewhilelaw22.DeltaBack', WHERE WHAT IT READS IS OF BULK AT MOST 1048576: true; the input reads as it did. -/
def deltaBackUptoRow : OpenClaim := { program := "ytelelglnbopgmaa", sum := "7d64b1f15e84ecc89d4be0b21ebeab4c520f35bfa0ed26a6caf74c136db4e585", func := "erewhile/erewhilelaw22.DeltaBack", spec := "deltaBack", unfollowed := true, recurses := true, apart := false, narrowed := true }
def DeltaBackUptoSaid : Prop := deltaBackUptoRow.holds Try.pinned (OpenSpec.upto deltaBackSpec)

/-- 'erewhilelaw22.DeltaTwice', WHERE WHAT IT READS IS OF BULK AT MOST 1048576: true; the input reads as it did. -/
def deltaTwiceUptoRow : OpenClaim := { program := "ytelelglnbopgmaa", sum := "7d64b1f15e84ecc89d4be0b21ebeab4c520f35bfa0ed26a6caf74c136db4e585", func := "erewhile/erewhilelaw22.DeltaTwice", spec := "deltaTwice", unfollowed := true, recurses := true, apart := false, narrowed := true }
def DeltaTwiceUptoSaid : Prop := deltaTwiceUptoRow.holds Try.pinned (OpenSpec.upto deltaTwiceSpec)

/-- 'erewhilelaw22.DeltaNone', WHERE WHAT IT READS IS OF BULK AT MOST 1048576: true; the input reads as it did. -/
def deltaNoneUptoRow : OpenClaim := { program := "ytelelglnbopgmaa", sum := "7d64b1f15e84ecc89d4be0b21ebeab4c520f35bfa0ed26a6caf74c136db4e585", func := "erewhile/erewhilelaw22.DeltaNone", spec := "deltaNone", unfollowed := true, recurses := true, apart := false, narrowed := true }
def DeltaNoneUptoSaid : Prop := deltaNoneUptoRow.holds Try.pinned (OpenSpec.upto deltaNoneSpec)

/-- 'erewhilelaw22.DeltaTurned', WHERE WHAT IT READS IS OF BULK AT MOST 1048576: true; the input reads as it did. -/
def deltaTurnedUptoRow : OpenClaim := { program := "ytelelglnbopgmaa", sum := "7d64b1f15e84ecc89d4be0b21ebeab4c520f35bfa0ed26a6caf74c136db4e585", func := "erewhile/erewhilelaw22.DeltaTurned", spec := "deltaTurned", unfollowed := true, recurses := true, apart := false, narrowed := true }
def DeltaTurnedUptoSaid : Prop := deltaTurnedUptoRow.holds Try.pinned (OpenSpec.upto deltaTurnedSpec)

/-- 'erewhilelaw22.DeltaWay', WHERE WHAT IT READS IS OF BULK AT MOST 1048576: true; the input reads as it did. -/
def deltaWayUptoRow : OpenClaim := { program := "ytelelglnbopgmaa", sum := "7d64b1f15e84ecc89d4be0b21ebeab4c520f35bfa0ed26a6caf74c136db4e585", func := "erewhile/erewhilelaw22.DeltaWay", spec := "deltaWay", unfollowed := true, recurses := true, apart := false, narrowed := true }
def DeltaWayUptoSaid : Prop := deltaWayUptoRow.holds Try.pinned (OpenSpec.upto deltaWaySpec)

end Rows
end Go.Proofs.Ytelelglnbopgmaa

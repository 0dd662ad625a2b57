/-
  No cell of these rows narrows 'for every input' (looked for: loops, veiled, ifaces, maps, wideKeys, modest, calm, conditions, laid).
  DERIVED. THE GIVEN ROWS OF THIS SEAT. 5 by the template 'for every input the law returns true; each argument reads behind the call as it read before'; 0 by the template 'total and deterministic' (their statements: YtdcbgmbpiekbgaaTotals.lean).
  GIVEN WITH THE SEED: the statements are not yours to turn. If you find one false, say at which input.
  Laid BY PROGRAM, IN A SANDBOX (cutbox-rows.mjs): the forced cells as the released guide's own fill.sh prints them over the translation 2473cf7b1063e658… (all of the seat's roots in one cut). By AI agents, Wed Nov 11 2026. No macro, syntax, notation, axiom, sorry.
-/
import Derived.Test.YtdcbgmbpiekbgaaChecked
import GoSem.Claim
import GoSem.ClaimJoined
import GoSem.ClaimMapViews
import Derived.JoinedTies
import Derived.KernelRfl
namespace Go.Proofs.Ytdcbgmbpiekbgaa
/- THE CELL 'sum', in the pinned program and in every row, IS THE sha256 OF THE DUMP (.gsa) THAT YtdcbgmbpiekbgaaProg.lean LOADS. Nothing in Lean hashes anything: it is a label: what it is worth is what the hold of that sum in a sandbox is worth. -/
noncomputable def Try.pinned : Pinned := { name := "ytdcbgmbpiekbgaa", sum := "2473cf7b1063e658ef601037a668cb146627ae058a8b2222309d61862753fa33", checked := Try.checked }
namespace Rows
def none {H : Type} : Left H := { results := [], args := [] }

/-- 'erewhilelaw47.MerkleRoots': WHATEVER THE INPUT: true; the input reads as it did. -/
def merkleRootsSpec : ChangeSpec := { name := "merkleRoots", fn := fun _ => fun
  | [d] => { results := [.lit (.bool true)], args := [d] }
  | _ => none }
def merkleRootsRow : OpenClaim := { program := "ytdcbgmbpiekbgaa", sum := "2473cf7b1063e658ef601037a668cb146627ae058a8b2222309d61862753fa33", func := "erewhile/erewhilelaw47.MerkleRoots", spec := "merkleRoots", recurses := true, apart := false }
def MerkleRootsSaid : Prop := merkleRootsRow.holds Try.pinned (OpenSpec.ofChange merkleRootsSpec)

/-- ITS FALSE NEIGHBOUR: 'it returns false'. Refute it at one input. -/
def merkleRootsWrong : ChangeSpec := { name := "merkleRoots", fn := fun _ => fun
  | [d] => { results := [.lit (.bool false)], args := [d] }
  | _ => none }
def MerkleRootsWrongFalsely : Prop := merkleRootsRow.holds Try.pinned (OpenSpec.ofChange merkleRootsWrong)

/-- 'erewhilelaw47.MerkleProofs': WHATEVER THE INPUT: true; the input reads as it did. -/
def merkleProofsSpec : ChangeSpec := { name := "merkleProofs", fn := fun _ => fun
  | [d1, d2] => { results := [.lit (.bool true)], args := [d1, d2] }
  | _ => none }
def merkleProofsRow : OpenClaim := { program := "ytdcbgmbpiekbgaa", sum := "2473cf7b1063e658ef601037a668cb146627ae058a8b2222309d61862753fa33", func := "erewhile/erewhilelaw47.MerkleProofs", spec := "merkleProofs", recurses := true, apart := false }
def MerkleProofsSaid : Prop := merkleProofsRow.holds Try.pinned (OpenSpec.ofChange merkleProofsSpec)

/-- ITS FALSE NEIGHBOUR: 'it returns false'. Refute it at one input. -/
def merkleProofsWrong : ChangeSpec := { name := "merkleProofs", fn := fun _ => fun
  | [d1, d2] => { results := [.lit (.bool false)], args := [d1, d2] }
  | _ => none }
def MerkleProofsWrongFalsely : Prop := merkleProofsRow.holds Try.pinned (OpenSpec.ofChange merkleProofsWrong)

/-- 'erewhilelaw47.MerkleChecks': WHATEVER THE INPUT: true; the input reads as it did. -/
def merkleChecksSpec : ChangeSpec := { name := "merkleChecks", fn := fun _ => fun
  | [d1, d2, d3, d4, d5] => { results := [.lit (.bool true)], args := [d1, d2, d3, d4, d5] }
  | _ => none }
def merkleChecksRow : OpenClaim := { program := "ytdcbgmbpiekbgaa", sum := "2473cf7b1063e658ef601037a668cb146627ae058a8b2222309d61862753fa33", func := "erewhile/erewhilelaw47.MerkleChecks", spec := "merkleChecks", recurses := true, apart := false }
def MerkleChecksSaid : Prop := merkleChecksRow.holds Try.pinned (OpenSpec.ofChange merkleChecksSpec)

/-- ITS FALSE NEIGHBOUR: 'it returns false'. Refute it at one input. -/
def merkleChecksWrong : ChangeSpec := { name := "merkleChecks", fn := fun _ => fun
  | [d1, d2, d3, d4, d5] => { results := [.lit (.bool false)], args := [d1, d2, d3, d4, d5] }
  | _ => none }
def MerkleChecksWrongFalsely : Prop := merkleChecksRow.holds Try.pinned (OpenSpec.ofChange merkleChecksWrong)

/-- 'erewhilelaw47.MerkleMore': WHATEVER THE INPUT: true; the input reads as it did. -/
def merkleMoreSpec : ChangeSpec := { name := "merkleMore", fn := fun _ => fun
  | [d1, d2] => { results := [.lit (.bool true)], args := [d1, d2] }
  | _ => none }
def merkleMoreRow : OpenClaim := { program := "ytdcbgmbpiekbgaa", sum := "2473cf7b1063e658ef601037a668cb146627ae058a8b2222309d61862753fa33", func := "erewhile/erewhilelaw47.MerkleMore", spec := "merkleMore", recurses := true, apart := false }
def MerkleMoreSaid : Prop := merkleMoreRow.holds Try.pinned (OpenSpec.ofChange merkleMoreSpec)

/-- ITS FALSE NEIGHBOUR: 'it returns false'. Refute it at one input. -/
def merkleMoreWrong : ChangeSpec := { name := "merkleMore", fn := fun _ => fun
  | [d1, d2] => { results := [.lit (.bool false)], args := [d1, d2] }
  | _ => none }
def MerkleMoreWrongFalsely : Prop := merkleMoreRow.holds Try.pinned (OpenSpec.ofChange merkleMoreWrong)

/-- 'erewhilelaw47.MerkleNear': WHATEVER THE INPUT: true; the input reads as it did. -/
def merkleNearSpec : ChangeSpec := { name := "merkleNear", fn := fun _ => fun
  | [d1, d2, d3] => { results := [.lit (.bool true)], args := [d1, d2, d3] }
  | _ => none }
def merkleNearRow : OpenClaim := { program := "ytdcbgmbpiekbgaa", sum := "2473cf7b1063e658ef601037a668cb146627ae058a8b2222309d61862753fa33", func := "erewhile/erewhilelaw47.MerkleNear", spec := "merkleNear", recurses := true, apart := false }
def MerkleNearSaid : Prop := merkleNearRow.holds Try.pinned (OpenSpec.ofChange merkleNearSpec)

/-- ITS FALSE NEIGHBOUR: 'it returns false'. Refute it at one input. -/
def merkleNearWrong : ChangeSpec := { name := "merkleNear", fn := fun _ => fun
  | [d1, d2, d3] => { results := [.lit (.bool false)], args := [d1, d2, d3] }
  | _ => none }
def MerkleNearWrongFalsely : Prop := merkleNearRow.holds Try.pinned (OpenSpec.ofChange merkleNearWrong)

/- THE SECOND FORM. 'bulk': how many values and letters a reading holds, each counted each time it is reached (what is shared counts as often as it is met; a slice's spare places count too). A statement '..UptoSaid' is the law's where the arguments, and the package variables that the reading takes, are together of bulk at most 1048576: NARROWER than '..Said'. Prove '..Said' where nothing that the law and all that it calls make is longer than what came in: it says more and counts as full. Else prove '..UptoSaid'. A law counts once. -/
mutual
def uptoBulk {H : Type} : DataW H → Nat
  | .lit (.string bytes) => bytes.length + 1
  | .lit _ => 1
  | .nil => 1
  | .ptr d => uptoBulk d + 1
  | .slice elems spare => uptoBulkAll elems + uptoBulkAll spare + 1
  | .agg parts => uptoBulkAll parts + 1
  | .iface _ d => uptoBulk d + 1
  | .map entries => uptoBulkEntries entries + 1
  | .held _ => 1
def uptoBulkAll {H : Type} : List (DataW H) → Nat
  | [] => 0
  | d :: r => uptoBulk d + uptoBulkAll r
def uptoBulkEntries {H : Type} : List (Lit × DataW H) → Nat
  | [] => 0
  | x :: r => uptoBulkEntry x + uptoBulkEntries r
def uptoBulkEntry {H : Type} : Lit × DataW H → Nat
  | (.string bytes, d) => bytes.length + uptoBulk d + 1
  | (_, d) => uptoBulk d + 1
 end
def uptoSmall : (H : Type) → List (DataW H) → Bool := fun _ ds => decide (uptoBulkAll ds ≤ 1048576)
def OpenSpec.upto (s : _root_.Go.ChangeSpec) : _root_.Go.OpenSpec := { _root_.Go.OpenSpec.ofChange s with cond := some uptoSmall }

/-- 'erewhilelaw47.MerkleRoots', WHERE WHAT IT READS IS OF BULK AT MOST 1048576: true; the input reads as it did. -/
def merkleRootsUptoRow : OpenClaim := { program := "ytdcbgmbpiekbgaa", sum := "2473cf7b1063e658ef601037a668cb146627ae058a8b2222309d61862753fa33", func := "erewhile/erewhilelaw47.MerkleRoots", spec := "merkleRoots", recurses := true, apart := false, narrowed := true }
def MerkleRootsUptoSaid : Prop := merkleRootsUptoRow.holds Try.pinned (OpenSpec.upto merkleRootsSpec)

/-- 'erewhilelaw47.MerkleProofs', WHERE WHAT IT READS IS OF BULK AT MOST 1048576: true; the input reads as it did. -/
def merkleProofsUptoRow : OpenClaim := { program := "ytdcbgmbpiekbgaa", sum := "2473cf7b1063e658ef601037a668cb146627ae058a8b2222309d61862753fa33", func := "erewhile/erewhilelaw47.MerkleProofs", spec := "merkleProofs", recurses := true, apart := false, narrowed := true }
def MerkleProofsUptoSaid : Prop := merkleProofsUptoRow.holds Try.pinned (OpenSpec.upto merkleProofsSpec)

/-- 'erewhilelaw47.MerkleChecks', WHERE WHAT IT READS IS OF BULK AT MOST 1048576: true; the input reads as it did. -/
def merkleChecksUptoRow : OpenClaim := { program := "ytdcbgmbpiekbgaa", sum := "2473cf7b1063e658ef601037a668cb146627ae058a8b2222309d61862753fa33", func := "erewhile/erewhilelaw47.MerkleChecks", spec := "merkleChecks", recurses := true, apart := false, narrowed := true }
def MerkleChecksUptoSaid : Prop := merkleChecksUptoRow.holds Try.pinned (OpenSpec.upto merkleChecksSpec)

/-- 'erewhilelaw47.MerkleMore', WHERE WHAT IT READS IS OF BULK AT MOST 1048576: true; the input reads as it did. -/
def merkleMoreUptoRow : OpenClaim := { program := "ytdcbgmbpiekbgaa", sum := "2473cf7b1063e658ef601037a668cb146627ae058a8b2222309d61862753fa33", func := "erewhile/erewhilelaw47.MerkleMore", spec := "merkleMore", recurses := true, apart := false, narrowed := true }
def MerkleMoreUptoSaid : Prop := merkleMoreUptoRow.holds Try.pinned (OpenSpec.upto merkleMoreSpec)

/-- 'erewhilelaw47.MerkleNear', WHERE WHAT IT READS IS OF BULK AT MOST 1048576: true; the input reads as it did. -/
def merkleNearUptoRow : OpenClaim := { program := "ytdcbgmbpiekbgaa", sum := "2473cf7b1063e658ef601037a668cb146627ae058a8b2222309d61862753fa33", func := "erewhile/erewhilelaw47.MerkleNear", spec := "merkleNear", recurses := true, apart := false, narrowed := true }
def MerkleNearUptoSaid : Prop := merkleNearUptoRow.holds Try.pinned (OpenSpec.upto merkleNearSpec)

end Rows
end Go.Proofs.Ytdcbgmbpiekbgaa

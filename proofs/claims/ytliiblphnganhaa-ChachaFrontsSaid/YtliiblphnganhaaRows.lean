/-
  No cell of these rows narrows 'for every input' (looked for: loops, veiled, ifaces, maps, wideKeys, modest, calm, conditions, laid).
  DERIVED. THE GIVEN ROWS OF THIS SEAT. 9 by the template 'for every input the law returns true; each argument reads behind the call as it read before'; 0 by the template 'total and deterministic' (their statements: YtliiblphnganhaaTotals.lean).
  GIVEN WITH THE SEED: the statements are not yours to turn. If you find one false, say at which input.
  Laid BY PROGRAM, IN A SANDBOX (cutbox-rows.mjs): the forced cells as the released guide's own fill.sh prints them over the translation 8689c4422404d190… (all of the seat's roots in one cut). By AI agents, Wed Nov 11 2026. No macro, syntax, notation, axiom, sorry.
-/
import Derived.Test.YtliiblphnganhaaChecked
import GoSem.Claim
import GoSem.ClaimJoined
import GoSem.ClaimMapViews
import Derived.JoinedTies
import Derived.KernelRfl
namespace Go.Proofs.Ytliiblphnganhaa
/- THE CELL 'sum', in the pinned program and in every row, IS THE sha256 OF THE DUMP (.gsa) THAT YtliiblphnganhaaProg.lean LOADS. Nothing in Lean hashes anything: it is a label: what it is worth is what the hold of that sum in a sandbox is worth. -/
noncomputable def Try.pinned : Pinned := { name := "ytliiblphnganhaa", sum := "8689c4422404d190997df07f3bc2f2c4a8a60bc002c75f2d75bb16d45387bc6b", checked := Try.checked }
namespace Rows
def none {H : Type} : Left H := { results := [], args := [] }

/-- 'erewhilelaw02.ChachaQuarter': WHATEVER THE INPUT: true; the input reads as it did. -/
def chachaQuarterSpec : ChangeSpec := { name := "chachaQuarter", fn := fun _ => fun
  | [d] => { results := [.lit (.bool true)], args := [d] }
  | _ => none }
def chachaQuarterRow : OpenClaim := { program := "ytliiblphnganhaa", sum := "8689c4422404d190997df07f3bc2f2c4a8a60bc002c75f2d75bb16d45387bc6b", func := "erewhile/erewhilelaw02.ChachaQuarter", spec := "chachaQuarter", apart := false }
def ChachaQuarterSaid : Prop := chachaQuarterRow.holds Try.pinned (OpenSpec.ofChange chachaQuarterSpec)

/-- ITS FALSE NEIGHBOUR: 'it returns false'. Refute it at one input. -/
def chachaQuarterWrong : ChangeSpec := { name := "chachaQuarter", fn := fun _ => fun
  | [d] => { results := [.lit (.bool false)], args := [d] }
  | _ => none }
def ChachaQuarterWrongFalsely : Prop := chachaQuarterRow.holds Try.pinned (OpenSpec.ofChange chachaQuarterWrong)

/-- 'erewhilelaw02.ChachaQuarterBack': WHATEVER THE INPUT: true; the input reads as it did. -/
def chachaQuarterBackSpec : ChangeSpec := { name := "chachaQuarterBack", fn := fun _ => fun
  | [d] => { results := [.lit (.bool true)], args := [d] }
  | _ => none }
def chachaQuarterBackRow : OpenClaim := { program := "ytliiblphnganhaa", sum := "8689c4422404d190997df07f3bc2f2c4a8a60bc002c75f2d75bb16d45387bc6b", func := "erewhile/erewhilelaw02.ChachaQuarterBack", spec := "chachaQuarterBack", apart := false }
def ChachaQuarterBackSaid : Prop := chachaQuarterBackRow.holds Try.pinned (OpenSpec.ofChange chachaQuarterBackSpec)

/-- ITS FALSE NEIGHBOUR: 'it returns false'. Refute it at one input. -/
def chachaQuarterBackWrong : ChangeSpec := { name := "chachaQuarterBack", fn := fun _ => fun
  | [d] => { results := [.lit (.bool false)], args := [d] }
  | _ => none }
def ChachaQuarterBackWrongFalsely : Prop := chachaQuarterBackRow.holds Try.pinned (OpenSpec.ofChange chachaQuarterBackWrong)

/-- 'erewhilelaw02.ChachaRounds': WHATEVER THE INPUT: true; the input reads as it did. -/
def chachaRoundsSpec : ChangeSpec := { name := "chachaRounds", fn := fun _ => fun
  | [d] => { results := [.lit (.bool true)], args := [d] }
  | _ => none }
def chachaRoundsRow : OpenClaim := { program := "ytliiblphnganhaa", sum := "8689c4422404d190997df07f3bc2f2c4a8a60bc002c75f2d75bb16d45387bc6b", func := "erewhile/erewhilelaw02.ChachaRounds", spec := "chachaRounds", apart := false }
def ChachaRoundsSaid : Prop := chachaRoundsRow.holds Try.pinned (OpenSpec.ofChange chachaRoundsSpec)

/-- ITS FALSE NEIGHBOUR: 'it returns false'. Refute it at one input. -/
def chachaRoundsWrong : ChangeSpec := { name := "chachaRounds", fn := fun _ => fun
  | [d] => { results := [.lit (.bool false)], args := [d] }
  | _ => none }
def ChachaRoundsWrongFalsely : Prop := chachaRoundsRow.holds Try.pinned (OpenSpec.ofChange chachaRoundsWrong)

/-- 'erewhilelaw02.ChachaTurned': WHATEVER THE INPUT: true; the input reads as it did. -/
def chachaTurnedSpec : ChangeSpec := { name := "chachaTurned", fn := fun _ => fun
  | [d1, d2] => { results := [.lit (.bool true)], args := [d1, d2] }
  | _ => none }
def chachaTurnedRow : OpenClaim := { program := "ytliiblphnganhaa", sum := "8689c4422404d190997df07f3bc2f2c4a8a60bc002c75f2d75bb16d45387bc6b", func := "erewhile/erewhilelaw02.ChachaTurned", spec := "chachaTurned", apart := false }
def ChachaTurnedSaid : Prop := chachaTurnedRow.holds Try.pinned (OpenSpec.ofChange chachaTurnedSpec)

/-- ITS FALSE NEIGHBOUR: 'it returns false'. Refute it at one input. -/
def chachaTurnedWrong : ChangeSpec := { name := "chachaTurned", fn := fun _ => fun
  | [d1, d2] => { results := [.lit (.bool false)], args := [d1, d2] }
  | _ => none }
def ChachaTurnedWrongFalsely : Prop := chachaTurnedRow.holds Try.pinned (OpenSpec.ofChange chachaTurnedWrong)

/-- 'erewhilelaw02.ChachaBlock': WHATEVER THE INPUT: true; the input reads as it did. -/
def chachaBlockSpec : ChangeSpec := { name := "chachaBlock", fn := fun _ => fun
  | [d1, d2, d3] => { results := [.lit (.bool true)], args := [d1, d2, d3] }
  | _ => none }
def chachaBlockRow : OpenClaim := { program := "ytliiblphnganhaa", sum := "8689c4422404d190997df07f3bc2f2c4a8a60bc002c75f2d75bb16d45387bc6b", func := "erewhile/erewhilelaw02.ChachaBlock", spec := "chachaBlock", apart := false }
def ChachaBlockSaid : Prop := chachaBlockRow.holds Try.pinned (OpenSpec.ofChange chachaBlockSpec)

/-- ITS FALSE NEIGHBOUR: 'it returns false'. Refute it at one input. -/
def chachaBlockWrong : ChangeSpec := { name := "chachaBlock", fn := fun _ => fun
  | [d1, d2, d3] => { results := [.lit (.bool false)], args := [d1, d2, d3] }
  | _ => none }
def ChachaBlockWrongFalsely : Prop := chachaBlockRow.holds Try.pinned (OpenSpec.ofChange chachaBlockWrong)

/-- 'erewhilelaw02.ChachaParts': WHATEVER THE INPUT: true; the input reads as it did. -/
def chachaPartsSpec : ChangeSpec := { name := "chachaParts", fn := fun _ => fun
  | [d1, d2, d3] => { results := [.lit (.bool true)], args := [d1, d2, d3] }
  | _ => none }
def chachaPartsRow : OpenClaim := { program := "ytliiblphnganhaa", sum := "8689c4422404d190997df07f3bc2f2c4a8a60bc002c75f2d75bb16d45387bc6b", func := "erewhile/erewhilelaw02.ChachaParts", spec := "chachaParts", apart := false }
def ChachaPartsSaid : Prop := chachaPartsRow.holds Try.pinned (OpenSpec.ofChange chachaPartsSpec)

/-- ITS FALSE NEIGHBOUR: 'it returns false'. Refute it at one input. -/
def chachaPartsWrong : ChangeSpec := { name := "chachaParts", fn := fun _ => fun
  | [d1, d2, d3] => { results := [.lit (.bool false)], args := [d1, d2, d3] }
  | _ => none }
def ChachaPartsWrongFalsely : Prop := chachaPartsRow.holds Try.pinned (OpenSpec.ofChange chachaPartsWrong)

/-- 'erewhilelaw02.ChachaStream': WHATEVER THE INPUT: true; the input reads as it did. -/
def chachaStreamSpec : ChangeSpec := { name := "chachaStream", fn := fun _ => fun
  | [d1, d2, d3] => { results := [.lit (.bool true)], args := [d1, d2, d3] }
  | _ => none }
def chachaStreamRow : OpenClaim := { program := "ytliiblphnganhaa", sum := "8689c4422404d190997df07f3bc2f2c4a8a60bc002c75f2d75bb16d45387bc6b", func := "erewhile/erewhilelaw02.ChachaStream", spec := "chachaStream", apart := false }
def ChachaStreamSaid : Prop := chachaStreamRow.holds Try.pinned (OpenSpec.ofChange chachaStreamSpec)

/-- ITS FALSE NEIGHBOUR: 'it returns false'. Refute it at one input. -/
def chachaStreamWrong : ChangeSpec := { name := "chachaStream", fn := fun _ => fun
  | [d1, d2, d3] => { results := [.lit (.bool false)], args := [d1, d2, d3] }
  | _ => none }
def ChachaStreamWrongFalsely : Prop := chachaStreamRow.holds Try.pinned (OpenSpec.ofChange chachaStreamWrong)

/-- 'erewhilelaw02.ChachaFronts': WHATEVER THE INPUT: true; the input reads as it did. -/
def chachaFrontsSpec : ChangeSpec := { name := "chachaFronts", fn := fun _ => fun
  | [d1, d2, d3] => { results := [.lit (.bool true)], args := [d1, d2, d3] }
  | _ => none }
def chachaFrontsRow : OpenClaim := { program := "ytliiblphnganhaa", sum := "8689c4422404d190997df07f3bc2f2c4a8a60bc002c75f2d75bb16d45387bc6b", func := "erewhile/erewhilelaw02.ChachaFronts", spec := "chachaFronts", apart := false }
def ChachaFrontsSaid : Prop := chachaFrontsRow.holds Try.pinned (OpenSpec.ofChange chachaFrontsSpec)

/-- ITS FALSE NEIGHBOUR: 'it returns false'. Refute it at one input. -/
def chachaFrontsWrong : ChangeSpec := { name := "chachaFronts", fn := fun _ => fun
  | [d1, d2, d3] => { results := [.lit (.bool false)], args := [d1, d2, d3] }
  | _ => none }
def ChachaFrontsWrongFalsely : Prop := chachaFrontsRow.holds Try.pinned (OpenSpec.ofChange chachaFrontsWrong)

/-- 'erewhilelaw02.ChachaKnown': WHATEVER THE INPUT: true; the input reads as it did. -/
def chachaKnownSpec : ChangeSpec := { name := "chachaKnown", fn := fun _ => fun
  | [d] => { results := [.lit (.bool true)], args := [d] }
  | _ => none }
def chachaKnownRow : OpenClaim := { program := "ytliiblphnganhaa", sum := "8689c4422404d190997df07f3bc2f2c4a8a60bc002c75f2d75bb16d45387bc6b", func := "erewhile/erewhilelaw02.ChachaKnown", spec := "chachaKnown", apart := false }
def ChachaKnownSaid : Prop := chachaKnownRow.holds Try.pinned (OpenSpec.ofChange chachaKnownSpec)

/-- ITS FALSE NEIGHBOUR: 'it returns false'. Refute it at one input. -/
def chachaKnownWrong : ChangeSpec := { name := "chachaKnown", fn := fun _ => fun
  | [d] => { results := [.lit (.bool false)], args := [d] }
  | _ => none }
def ChachaKnownWrongFalsely : Prop := chachaKnownRow.holds Try.pinned (OpenSpec.ofChange chachaKnownWrong)

/- THE SECOND FORM. 'bulk': how many values and letters a reading holds, each counted each time it is reached (what is shared counts as often as it is met; a slice's spare places count too). A statement '..UptoSaid' is the law's where the arguments, and the package variables that the reading takes, are together of bulk at most 1048576: NARROWER than '..Said'. Prove '..Said' where nothing that the law and all that it calls make is longer than what came in: it says more and counts as full. Else prove '..UptoSaid'. A law counts once. -/
mutual
def uptoBulk {H : Type} : DataW H → Nat
  | .lit (.string bytes) => bytes.length + 1
  | .lit _ => 1
  | .nil => 1
  | .ptr d => uptoBulk d + 1
  | .slice elems spare => uptoBulkAll elems + uptoBulkAll spare + 1
  | .agg parts => uptoBulkAll parts + 1
  | .iface _ d => uptoBulk d + 1
  | .map entries => uptoBulkEntries entries + 1
  | .held _ => 1
def uptoBulkAll {H : Type} : List (DataW H) → Nat
  | [] => 0
  | d :: r => uptoBulk d + uptoBulkAll r
def uptoBulkEntries {H : Type} : List (Lit × DataW H) → Nat
  | [] => 0
  | x :: r => uptoBulkEntry x + uptoBulkEntries r
def uptoBulkEntry {H : Type} : Lit × DataW H → Nat
  | (.string bytes, d) => bytes.length + uptoBulk d + 1
  | (_, d) => uptoBulk d + 1
 end
def uptoSmall : (H : Type) → List (DataW H) → Bool := fun _ ds => decide (uptoBulkAll ds ≤ 1048576)
def OpenSpec.upto (s : _root_.Go.ChangeSpec) : _root_.Go.OpenSpec := { _root_.Go.OpenSpec.ofChange s with cond := some uptoSmall }

/-- 'erewhilelaw02.ChachaQuarter', WHERE WHAT IT READS IS OF BULK AT MOST 1048576: true; the input reads as it did. -/
def chachaQuarterUptoRow : OpenClaim := { program := "ytliiblphnganhaa", sum := "8689c4422404d190997df07f3bc2f2c4a8a60bc002c75f2d75bb16d45387bc6b", func := "erewhile/erewhilelaw02.ChachaQuarter", spec := "chachaQuarter", apart := false, narrowed := true }
def ChachaQuarterUptoSaid : Prop := chachaQuarterUptoRow.holds Try.pinned (OpenSpec.upto chachaQuarterSpec)

/-- 'erewhilelaw02.ChachaQuarterBack', WHERE WHAT IT READS IS OF BULK AT MOST 1048576: true; the input reads as it did. -/
def chachaQuarterBackUptoRow : OpenClaim := { program := "ytliiblphnganhaa", sum := "8689c4422404d190997df07f3bc2f2c4a8a60bc002c75f2d75bb16d45387bc6b", func := "erewhile/erewhilelaw02.ChachaQuarterBack", spec := "chachaQuarterBack", apart := false, narrowed := true }
def ChachaQuarterBackUptoSaid : Prop := chachaQuarterBackUptoRow.holds Try.pinned (OpenSpec.upto chachaQuarterBackSpec)

/-- 'erewhilelaw02.ChachaRounds', WHERE WHAT IT READS IS OF BULK AT MOST 1048576: true; the input reads as it did. -/
def chachaRoundsUptoRow : OpenClaim := { program := "ytliiblphnganhaa", sum := "8689c4422404d190997df07f3bc2f2c4a8a60bc002c75f2d75bb16d45387bc6b", func := "erewhile/erewhilelaw02.ChachaRounds", spec := "chachaRounds", apart := false, narrowed := true }
def ChachaRoundsUptoSaid : Prop := chachaRoundsUptoRow.holds Try.pinned (OpenSpec.upto chachaRoundsSpec)

/-- 'erewhilelaw02.ChachaTurned', WHERE WHAT IT READS IS OF BULK AT MOST 1048576: true; the input reads as it did. -/
def chachaTurnedUptoRow : OpenClaim := { program := "ytliiblphnganhaa", sum := "8689c4422404d190997df07f3bc2f2c4a8a60bc002c75f2d75bb16d45387bc6b", func := "erewhile/erewhilelaw02.ChachaTurned", spec := "chachaTurned", apart := false, narrowed := true }
def ChachaTurnedUptoSaid : Prop := chachaTurnedUptoRow.holds Try.pinned (OpenSpec.upto chachaTurnedSpec)

/-- 'erewhilelaw02.ChachaBlock', WHERE WHAT IT READS IS OF BULK AT MOST 1048576: true; the input reads as it did. -/
def chachaBlockUptoRow : OpenClaim := { program := "ytliiblphnganhaa", sum := "8689c4422404d190997df07f3bc2f2c4a8a60bc002c75f2d75bb16d45387bc6b", func := "erewhile/erewhilelaw02.ChachaBlock", spec := "chachaBlock", apart := false, narrowed := true }
def ChachaBlockUptoSaid : Prop := chachaBlockUptoRow.holds Try.pinned (OpenSpec.upto chachaBlockSpec)

/-- 'erewhilelaw02.ChachaParts', WHERE WHAT IT READS IS OF BULK AT MOST 1048576: true; the input reads as it did. -/
def chachaPartsUptoRow : OpenClaim := { program := "ytliiblphnganhaa", sum := "8689c4422404d190997df07f3bc2f2c4a8a60bc002c75f2d75bb16d45387bc6b", func := "erewhile/erewhilelaw02.ChachaParts", spec := "chachaParts", apart := false, narrowed := true }
def ChachaPartsUptoSaid : Prop := chachaPartsUptoRow.holds Try.pinned (OpenSpec.upto chachaPartsSpec)

/-- 'erewhilelaw02.ChachaStream', WHERE WHAT IT READS IS OF BULK AT MOST 1048576: true; the input reads as it did. -/
def chachaStreamUptoRow : OpenClaim := { program := "ytliiblphnganhaa", sum := "8689c4422404d190997df07f3bc2f2c4a8a60bc002c75f2d75bb16d45387bc6b", func := "erewhile/erewhilelaw02.ChachaStream", spec := "chachaStream", apart := false, narrowed := true }
def ChachaStreamUptoSaid : Prop := chachaStreamUptoRow.holds Try.pinned (OpenSpec.upto chachaStreamSpec)

/-- 'erewhilelaw02.ChachaFronts', WHERE WHAT IT READS IS OF BULK AT MOST 1048576: true; the input reads as it did. -/
def chachaFrontsUptoRow : OpenClaim := { program := "ytliiblphnganhaa", sum := "8689c4422404d190997df07f3bc2f2c4a8a60bc002c75f2d75bb16d45387bc6b", func := "erewhile/erewhilelaw02.ChachaFronts", spec := "chachaFronts", apart := false, narrowed := true }
def ChachaFrontsUptoSaid : Prop := chachaFrontsUptoRow.holds Try.pinned (OpenSpec.upto chachaFrontsSpec)

/-- 'erewhilelaw02.ChachaKnown', WHERE WHAT IT READS IS OF BULK AT MOST 1048576: true; the input reads as it did. -/
def chachaKnownUptoRow : OpenClaim := { program := "ytliiblphnganhaa", sum := "8689c4422404d190997df07f3bc2f2c4a8a60bc002c75f2d75bb16d45387bc6b", func := "erewhile/erewhilelaw02.ChachaKnown", spec := "chachaKnown", apart := false, narrowed := true }
def ChachaKnownUptoSaid : Prop := chachaKnownUptoRow.holds Try.pinned (OpenSpec.upto chachaKnownSpec)

end Rows
end Go.Proofs.Ytliiblphnganhaa

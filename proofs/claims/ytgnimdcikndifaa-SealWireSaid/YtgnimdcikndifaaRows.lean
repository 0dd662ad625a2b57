/-
  No cell of these rows narrows 'for every input' (looked for: loops, veiled, ifaces, maps, wideKeys, modest, calm, conditions, laid).
  DERIVED. THE GIVEN ROWS OF THIS SEAT. 8 by the template 'for every input the law returns true; each argument reads behind the call as it read before'; 0 by the template 'total and deterministic' (their statements: YtgnimdcikndifaaTotals.lean).
  GIVEN WITH THE SEED: the statements are not yours to turn. If you find one false, say at which input.
  Laid BY PROGRAM, IN A SANDBOX (cutbox-rows.mjs): the forced cells as the released guide's own fill.sh prints them over the translation 90706339a3003bcf… (all of the seat's roots in one cut). By AI agents, Wed Nov 11 2026. No macro, syntax, notation, axiom, sorry.
-/
import Derived.Test.YtgnimdcikndifaaChecked
import GoSem.Claim
import GoSem.ClaimJoined
import GoSem.ClaimMapViews
import Derived.JoinedTies
import Derived.KernelRfl
namespace Go.Proofs.Ytgnimdcikndifaa
/- THE CELL 'sum', in the pinned program and in every row, IS THE sha256 OF THE DUMP (.gsa) THAT YtgnimdcikndifaaProg.lean LOADS. Nothing in Lean hashes anything: it is a label: what it is worth is what the hold of that sum in a sandbox is worth. -/
noncomputable def Try.pinned : Pinned := { name := "ytgnimdcikndifaa", sum := "90706339a3003bcf70a27f70a4b29b5452091a09226975172253984ce1a05ebf", checked := Try.checked }
namespace Rows
def none {H : Type} : Left H := { results := [], args := [] }

/-- 'erewhilelaw04.SealChains': WHATEVER THE INPUT: true; the input reads as it did. -/
def sealChainsSpec : ChangeSpec := { name := "sealChains", fn := fun _ => fun
  | [d1, d2] => { results := [.lit (.bool true)], args := [d1, d2] }
  | _ => none }
def sealChainsRow : OpenClaim := { program := "ytgnimdcikndifaa", sum := "90706339a3003bcf70a27f70a4b29b5452091a09226975172253984ce1a05ebf", func := "erewhile/erewhilelaw04.SealChains", spec := "sealChains", apart := false }
def SealChainsSaid : Prop := sealChainsRow.holds Try.pinned (OpenSpec.ofChange sealChainsSpec)

/-- ITS FALSE NEIGHBOUR: 'it returns false'. Refute it at one input. -/
def sealChainsWrong : ChangeSpec := { name := "sealChains", fn := fun _ => fun
  | [d1, d2] => { results := [.lit (.bool false)], args := [d1, d2] }
  | _ => none }
def SealChainsWrongFalsely : Prop := sealChainsRow.holds Try.pinned (OpenSpec.ofChange sealChainsWrong)

/-- 'erewhilelaw04.SealRows': WHATEVER THE INPUT: true; the input reads as it did. -/
def sealRowsSpec : ChangeSpec := { name := "sealRows", fn := fun _ => fun
  | [d1, d2, d3] => { results := [.lit (.bool true)], args := [d1, d2, d3] }
  | _ => none }
def sealRowsRow : OpenClaim := { program := "ytgnimdcikndifaa", sum := "90706339a3003bcf70a27f70a4b29b5452091a09226975172253984ce1a05ebf", func := "erewhile/erewhilelaw04.SealRows", spec := "sealRows", apart := false }
def SealRowsSaid : Prop := sealRowsRow.holds Try.pinned (OpenSpec.ofChange sealRowsSpec)

/-- ITS FALSE NEIGHBOUR: 'it returns false'. Refute it at one input. -/
def sealRowsWrong : ChangeSpec := { name := "sealRows", fn := fun _ => fun
  | [d1, d2, d3] => { results := [.lit (.bool false)], args := [d1, d2, d3] }
  | _ => none }
def SealRowsWrongFalsely : Prop := sealRowsRow.holds Try.pinned (OpenSpec.ofChange sealRowsWrong)

/-- 'erewhilelaw04.SealInner': WHATEVER THE INPUT: true; the input reads as it did. -/
def sealInnerSpec : ChangeSpec := { name := "sealInner", fn := fun _ => fun
  | [d1, d2] => { results := [.lit (.bool true)], args := [d1, d2] }
  | _ => none }
def sealInnerRow : OpenClaim := { program := "ytgnimdcikndifaa", sum := "90706339a3003bcf70a27f70a4b29b5452091a09226975172253984ce1a05ebf", func := "erewhile/erewhilelaw04.SealInner", spec := "sealInner", apart := false }
def SealInnerSaid : Prop := sealInnerRow.holds Try.pinned (OpenSpec.ofChange sealInnerSpec)

/-- ITS FALSE NEIGHBOUR: 'it returns false'. Refute it at one input. -/
def sealInnerWrong : ChangeSpec := { name := "sealInner", fn := fun _ => fun
  | [d1, d2] => { results := [.lit (.bool false)], args := [d1, d2] }
  | _ => none }
def SealInnerWrongFalsely : Prop := sealInnerRow.holds Try.pinned (OpenSpec.ofChange sealInnerWrong)

/-- 'erewhilelaw04.SealSums': WHATEVER THE INPUT: true; the input reads as it did. -/
def sealSumsSpec : ChangeSpec := { name := "sealSums", fn := fun _ => fun
  | [d1, d2, d3] => { results := [.lit (.bool true)], args := [d1, d2, d3] }
  | _ => none }
def sealSumsRow : OpenClaim := { program := "ytgnimdcikndifaa", sum := "90706339a3003bcf70a27f70a4b29b5452091a09226975172253984ce1a05ebf", func := "erewhile/erewhilelaw04.SealSums", spec := "sealSums", apart := false }
def SealSumsSaid : Prop := sealSumsRow.holds Try.pinned (OpenSpec.ofChange sealSumsSpec)

/-- ITS FALSE NEIGHBOUR: 'it returns false'. Refute it at one input. -/
def sealSumsWrong : ChangeSpec := { name := "sealSums", fn := fun _ => fun
  | [d1, d2, d3] => { results := [.lit (.bool false)], args := [d1, d2, d3] }
  | _ => none }
def SealSumsWrongFalsely : Prop := sealSumsRow.holds Try.pinned (OpenSpec.ofChange sealSumsWrong)

/-- 'erewhilelaw04.SealApart': WHATEVER THE INPUT: true; the input reads as it did. -/
def sealApartSpec : ChangeSpec := { name := "sealApart", fn := fun _ => fun
  | [d1, d2, d3] => { results := [.lit (.bool true)], args := [d1, d2, d3] }
  | _ => none }
def sealApartRow : OpenClaim := { program := "ytgnimdcikndifaa", sum := "90706339a3003bcf70a27f70a4b29b5452091a09226975172253984ce1a05ebf", func := "erewhile/erewhilelaw04.SealApart", spec := "sealApart", apart := false }
def SealApartSaid : Prop := sealApartRow.holds Try.pinned (OpenSpec.ofChange sealApartSpec)

/-- ITS FALSE NEIGHBOUR: 'it returns false'. Refute it at one input. -/
def sealApartWrong : ChangeSpec := { name := "sealApart", fn := fun _ => fun
  | [d1, d2, d3] => { results := [.lit (.bool false)], args := [d1, d2, d3] }
  | _ => none }
def SealApartWrongFalsely : Prop := sealApartRow.holds Try.pinned (OpenSpec.ofChange sealApartWrong)

/-- 'erewhilelaw04.SealKeys': WHATEVER THE INPUT: true; the input reads as it did. -/
def sealKeysSpec : ChangeSpec := { name := "sealKeys", fn := fun _ => fun
  | [d1, d2, d3] => { results := [.lit (.bool true)], args := [d1, d2, d3] }
  | _ => none }
def sealKeysRow : OpenClaim := { program := "ytgnimdcikndifaa", sum := "90706339a3003bcf70a27f70a4b29b5452091a09226975172253984ce1a05ebf", func := "erewhile/erewhilelaw04.SealKeys", spec := "sealKeys", apart := false }
def SealKeysSaid : Prop := sealKeysRow.holds Try.pinned (OpenSpec.ofChange sealKeysSpec)

/-- ITS FALSE NEIGHBOUR: 'it returns false'. Refute it at one input. -/
def sealKeysWrong : ChangeSpec := { name := "sealKeys", fn := fun _ => fun
  | [d1, d2, d3] => { results := [.lit (.bool false)], args := [d1, d2, d3] }
  | _ => none }
def SealKeysWrongFalsely : Prop := sealKeysRow.holds Try.pinned (OpenSpec.ofChange sealKeysWrong)

/-- 'erewhilelaw04.SealZero': WHATEVER THE INPUT: true; the input reads as it did. -/
def sealZeroSpec : ChangeSpec := { name := "sealZero", fn := fun _ => fun
  | [d1, d2, d3] => { results := [.lit (.bool true)], args := [d1, d2, d3] }
  | _ => none }
def sealZeroRow : OpenClaim := { program := "ytgnimdcikndifaa", sum := "90706339a3003bcf70a27f70a4b29b5452091a09226975172253984ce1a05ebf", func := "erewhile/erewhilelaw04.SealZero", spec := "sealZero", apart := false }
def SealZeroSaid : Prop := sealZeroRow.holds Try.pinned (OpenSpec.ofChange sealZeroSpec)

/-- ITS FALSE NEIGHBOUR: 'it returns false'. Refute it at one input. -/
def sealZeroWrong : ChangeSpec := { name := "sealZero", fn := fun _ => fun
  | [d1, d2, d3] => { results := [.lit (.bool false)], args := [d1, d2, d3] }
  | _ => none }
def SealZeroWrongFalsely : Prop := sealZeroRow.holds Try.pinned (OpenSpec.ofChange sealZeroWrong)

/-- 'erewhilelaw04.SealWire': WHATEVER THE INPUT: true; the input reads as it did. -/
def sealWireSpec : ChangeSpec := { name := "sealWire", fn := fun _ => fun
  | [d1, d2, d3] => { results := [.lit (.bool true)], args := [d1, d2, d3] }
  | _ => none }
def sealWireRow : OpenClaim := { program := "ytgnimdcikndifaa", sum := "90706339a3003bcf70a27f70a4b29b5452091a09226975172253984ce1a05ebf", func := "erewhile/erewhilelaw04.SealWire", spec := "sealWire", apart := false }
def SealWireSaid : Prop := sealWireRow.holds Try.pinned (OpenSpec.ofChange sealWireSpec)

/-- ITS FALSE NEIGHBOUR: 'it returns false'. Refute it at one input. -/
def sealWireWrong : ChangeSpec := { name := "sealWire", fn := fun _ => fun
  | [d1, d2, d3] => { results := [.lit (.bool false)], args := [d1, d2, d3] }
  | _ => none }
def SealWireWrongFalsely : Prop := sealWireRow.holds Try.pinned (OpenSpec.ofChange sealWireWrong)

/- THE SECOND FORM. 'bulk': how many values and letters a reading holds, each counted each time it is reached (what is shared counts as often as it is met; a slice's spare places count too). A statement '..UptoSaid' is the law's where the arguments, and the package variables that the reading takes, are together of bulk at most 1048576: NARROWER than '..Said'. Prove '..Said' where nothing that the law and all that it calls make is longer than what came in: it says more and counts as full. Else prove '..UptoSaid'. A law counts once. -/
mutual
def uptoBulk {H : Type} : DataW H → Nat
  | .lit (.string bytes) => bytes.length + 1
  | .lit _ => 1
  | .nil => 1
  | .ptr d => uptoBulk d + 1
  | .slice elems spare => uptoBulkAll elems + uptoBulkAll spare + 1
  | .agg parts => uptoBulkAll parts + 1
  | .iface _ d => uptoBulk d + 1
  | .map entries => uptoBulkEntries entries + 1
  | .held _ => 1
def uptoBulkAll {H : Type} : List (DataW H) → Nat
  | [] => 0
  | d :: r => uptoBulk d + uptoBulkAll r
def uptoBulkEntries {H : Type} : List (Lit × DataW H) → Nat
  | [] => 0
  | x :: r => uptoBulkEntry x + uptoBulkEntries r
def uptoBulkEntry {H : Type} : Lit × DataW H → Nat
  | (.string bytes, d) => bytes.length + uptoBulk d + 1
  | (_, d) => uptoBulk d + 1
 end
def uptoSmall : (H : Type) → List (DataW H) → Bool := fun _ ds => decide (uptoBulkAll ds ≤ 1048576)
def OpenSpec.upto (s : _root_.Go.ChangeSpec) : _root_.Go.OpenSpec := { _root_.Go.OpenSpec.ofChange s with cond := some uptoSmall }

/-- 'erewhilelaw04.SealChains', WHERE WHAT IT READS IS OF BULK AT MOST 1048576: true; the input reads as it did. -/
def sealChainsUptoRow : OpenClaim := { program := "ytgnimdcikndifaa", sum := "90706339a3003bcf70a27f70a4b29b5452091a09226975172253984ce1a05ebf", func := "erewhile/erewhilelaw04.SealChains", spec := "sealChains", apart := false, narrowed := true }
def SealChainsUptoSaid : Prop := sealChainsUptoRow.holds Try.pinned (OpenSpec.upto sealChainsSpec)

/-- 'erewhilelaw04.SealRows', WHERE WHAT IT READS IS OF BULK AT MOST 1048576: true; the input reads as it did. -/
def sealRowsUptoRow : OpenClaim := { program := "ytgnimdcikndifaa", sum := "90706339a3003bcf70a27f70a4b29b5452091a09226975172253984ce1a05ebf", func := "erewhile/erewhilelaw04.SealRows", spec := "sealRows", apart := false, narrowed := true }
def SealRowsUptoSaid : Prop := sealRowsUptoRow.holds Try.pinned (OpenSpec.upto sealRowsSpec)

/-- 'erewhilelaw04.SealInner', WHERE WHAT IT READS IS OF BULK AT MOST 1048576: true; the input reads as it did. -/
def sealInnerUptoRow : OpenClaim := { program := "ytgnimdcikndifaa", sum := "90706339a3003bcf70a27f70a4b29b5452091a09226975172253984ce1a05ebf", func := "erewhile/erewhilelaw04.SealInner", spec := "sealInner", apart := false, narrowed := true }
def SealInnerUptoSaid : Prop := sealInnerUptoRow.holds Try.pinned (OpenSpec.upto sealInnerSpec)

/-- 'erewhilelaw04.SealSums', WHERE WHAT IT READS IS OF BULK AT MOST 1048576: true; the input reads as it did. -/
def sealSumsUptoRow : OpenClaim := { program := "ytgnimdcikndifaa", sum := "90706339a3003bcf70a27f70a4b29b5452091a09226975172253984ce1a05ebf", func := "erewhile/erewhilelaw04.SealSums", spec := "sealSums", apart := false, narrowed := true }
def SealSumsUptoSaid : Prop := sealSumsUptoRow.holds Try.pinned (OpenSpec.upto sealSumsSpec)

/-- 'erewhilelaw04.SealApart', WHERE WHAT IT READS IS OF BULK AT MOST 1048576: true; the input reads as it did. -/
def sealApartUptoRow : OpenClaim := { program := "ytgnimdcikndifaa", sum := "90706339a3003bcf70a27f70a4b29b5452091a09226975172253984ce1a05ebf", func := "erewhile/erewhilelaw04.SealApart", spec := "sealApart", apart := false, narrowed := true }
def SealApartUptoSaid : Prop := sealApartUptoRow.holds Try.pinned (OpenSpec.upto sealApartSpec)

/-- 'erewhilelaw04.SealKeys', WHERE WHAT IT READS IS OF BULK AT MOST 1048576: true; the input reads as it did. -/
def sealKeysUptoRow : OpenClaim := { program := "ytgnimdcikndifaa", sum := "90706339a3003bcf70a27f70a4b29b5452091a09226975172253984ce1a05ebf", func := "erewhile/erewhilelaw04.SealKeys", spec := "sealKeys", apart := false, narrowed := true }
def SealKeysUptoSaid : Prop := sealKeysUptoRow.holds Try.pinned (OpenSpec.upto sealKeysSpec)

/-- 'erewhilelaw04.SealZero', WHERE WHAT IT READS IS OF BULK AT MOST 1048576: true; the input reads as it did. -/
def sealZeroUptoRow : OpenClaim := { program := "ytgnimdcikndifaa", sum := "90706339a3003bcf70a27f70a4b29b5452091a09226975172253984ce1a05ebf", func := "erewhile/erewhilelaw04.SealZero", spec := "sealZero", apart := false, narrowed := true }
def SealZeroUptoSaid : Prop := sealZeroUptoRow.holds Try.pinned (OpenSpec.upto sealZeroSpec)

/-- 'erewhilelaw04.SealWire', WHERE WHAT IT READS IS OF BULK AT MOST 1048576: true; the input reads as it did. -/
def sealWireUptoRow : OpenClaim := { program := "ytgnimdcikndifaa", sum := "90706339a3003bcf70a27f70a4b29b5452091a09226975172253984ce1a05ebf", func := "erewhile/erewhilelaw04.SealWire", spec := "sealWire", apart := false, narrowed := true }
def SealWireUptoSaid : Prop := sealWireUptoRow.holds Try.pinned (OpenSpec.upto sealWireSpec)

end Rows
end Go.Proofs.Ytgnimdcikndifaa

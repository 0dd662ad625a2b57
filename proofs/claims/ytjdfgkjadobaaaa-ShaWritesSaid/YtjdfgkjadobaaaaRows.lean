/-
  No cell of these rows narrows 'for every input' (looked for: loops, veiled, ifaces, maps, wideKeys, modest, calm, conditions, laid).
  DERIVED. THE GIVEN ROWS OF THIS SEAT. 9 by the template 'for every input the law returns true; each argument reads behind the call as it read before'; 0 by the template 'total and deterministic' (their statements: YtjdfgkjadobaaaaTotals.lean).
  GIVEN WITH THE SEED: the statements are not yours to turn. If you find one false, say at which input.
  Laid BY PROGRAM, IN A SANDBOX (cutbox-rows.mjs): the forced cells as the released guide's own fill.sh prints them over the translation 118fcc35801e0f3e… (all of the seat's roots in one cut). By AI agents, Wed Nov 11 2026. No macro, syntax, notation, axiom, sorry.
-/
import Derived.Test.YtjdfgkjadobaaaaChecked
import GoSem.Claim
import GoSem.ClaimJoined
import GoSem.ClaimMapViews
import Derived.JoinedTies
import Derived.KernelRfl
namespace Go.Proofs.Ytjdfgkjadobaaaa
/- THE CELL 'sum', in the pinned program and in every row, IS THE sha256 OF THE DUMP (.gsa) THAT YtjdfgkjadobaaaaProg.lean LOADS. Nothing in Lean hashes anything: it is a label: what it is worth is what the hold of that sum in a sandbox is worth. -/
noncomputable def Try.pinned : Pinned := { name := "ytjdfgkjadobaaaa", sum := "118fcc35801e0f3e6b4fedff69929b622748327ec61edb04d25a746918348362", checked := Try.checked }
namespace Rows
def none {H : Type} : Left H := { results := [], args := [] }

/-- 'erewhilelaw03.ShaPads': WHATEVER THE INPUT: true; the input reads as it did. -/
def shaPadsSpec : ChangeSpec := { name := "shaPads", fn := fun _ => fun
  | [d] => { results := [.lit (.bool true)], args := [d] }
  | _ => none }
def shaPadsRow : OpenClaim := { program := "ytjdfgkjadobaaaa", sum := "118fcc35801e0f3e6b4fedff69929b622748327ec61edb04d25a746918348362", func := "erewhile/erewhilelaw03.ShaPads", spec := "shaPads", apart := false }
def ShaPadsSaid : Prop := shaPadsRow.holds Try.pinned (OpenSpec.ofChange shaPadsSpec)

/-- ITS FALSE NEIGHBOUR: 'it returns false'. Refute it at one input. -/
def shaPadsWrong : ChangeSpec := { name := "shaPads", fn := fun _ => fun
  | [d] => { results := [.lit (.bool false)], args := [d] }
  | _ => none }
def ShaPadsWrongFalsely : Prop := shaPadsRow.holds Try.pinned (OpenSpec.ofChange shaPadsWrong)

/-- 'erewhilelaw03.ShaApart': WHATEVER THE INPUT: true; the input reads as it did. -/
def shaApartSpec : ChangeSpec := { name := "shaApart", fn := fun _ => fun
  | [d1, d2] => { results := [.lit (.bool true)], args := [d1, d2] }
  | _ => none }
def shaApartRow : OpenClaim := { program := "ytjdfgkjadobaaaa", sum := "118fcc35801e0f3e6b4fedff69929b622748327ec61edb04d25a746918348362", func := "erewhile/erewhilelaw03.ShaApart", spec := "shaApart", apart := false }
def ShaApartSaid : Prop := shaApartRow.holds Try.pinned (OpenSpec.ofChange shaApartSpec)

/-- ITS FALSE NEIGHBOUR: 'it returns false'. Refute it at one input. -/
def shaApartWrong : ChangeSpec := { name := "shaApart", fn := fun _ => fun
  | [d1, d2] => { results := [.lit (.bool false)], args := [d1, d2] }
  | _ => none }
def ShaApartWrongFalsely : Prop := shaApartRow.holds Try.pinned (OpenSpec.ofChange shaApartWrong)

/-- 'erewhilelaw03.ShaCompress': WHATEVER THE INPUT: true; the input reads as it did. -/
def shaCompressSpec : ChangeSpec := { name := "shaCompress", fn := fun _ => fun
  | [d1, d2] => { results := [.lit (.bool true)], args := [d1, d2] }
  | _ => none }
def shaCompressRow : OpenClaim := { program := "ytjdfgkjadobaaaa", sum := "118fcc35801e0f3e6b4fedff69929b622748327ec61edb04d25a746918348362", func := "erewhile/erewhilelaw03.ShaCompress", spec := "shaCompress", apart := false }
def ShaCompressSaid : Prop := shaCompressRow.holds Try.pinned (OpenSpec.ofChange shaCompressSpec)

/-- ITS FALSE NEIGHBOUR: 'it returns false'. Refute it at one input. -/
def shaCompressWrong : ChangeSpec := { name := "shaCompress", fn := fun _ => fun
  | [d1, d2] => { results := [.lit (.bool false)], args := [d1, d2] }
  | _ => none }
def ShaCompressWrongFalsely : Prop := shaCompressRow.holds Try.pinned (OpenSpec.ofChange shaCompressWrong)

/-- 'erewhilelaw03.ShaSums': WHATEVER THE INPUT: true; the input reads as it did. -/
def shaSumsSpec : ChangeSpec := { name := "shaSums", fn := fun _ => fun
  | [d] => { results := [.lit (.bool true)], args := [d] }
  | _ => none }
def shaSumsRow : OpenClaim := { program := "ytjdfgkjadobaaaa", sum := "118fcc35801e0f3e6b4fedff69929b622748327ec61edb04d25a746918348362", func := "erewhile/erewhilelaw03.ShaSums", spec := "shaSums", apart := false }
def ShaSumsSaid : Prop := shaSumsRow.holds Try.pinned (OpenSpec.ofChange shaSumsSpec)

/-- ITS FALSE NEIGHBOUR: 'it returns false'. Refute it at one input. -/
def shaSumsWrong : ChangeSpec := { name := "shaSums", fn := fun _ => fun
  | [d] => { results := [.lit (.bool false)], args := [d] }
  | _ => none }
def ShaSumsWrongFalsely : Prop := shaSumsRow.holds Try.pinned (OpenSpec.ofChange shaSumsWrong)

/-- 'erewhilelaw03.ShaJoins': WHATEVER THE INPUT: true; the input reads as it did. -/
def shaJoinsSpec : ChangeSpec := { name := "shaJoins", fn := fun _ => fun
  | [d] => { results := [.lit (.bool true)], args := [d] }
  | _ => none }
def shaJoinsRow : OpenClaim := { program := "ytjdfgkjadobaaaa", sum := "118fcc35801e0f3e6b4fedff69929b622748327ec61edb04d25a746918348362", func := "erewhile/erewhilelaw03.ShaJoins", spec := "shaJoins", apart := false }
def ShaJoinsSaid : Prop := shaJoinsRow.holds Try.pinned (OpenSpec.ofChange shaJoinsSpec)

/-- ITS FALSE NEIGHBOUR: 'it returns false'. Refute it at one input. -/
def shaJoinsWrong : ChangeSpec := { name := "shaJoins", fn := fun _ => fun
  | [d] => { results := [.lit (.bool false)], args := [d] }
  | _ => none }
def ShaJoinsWrongFalsely : Prop := shaJoinsRow.holds Try.pinned (OpenSpec.ofChange shaJoinsWrong)

/-- 'erewhilelaw03.ShaOnward': WHATEVER THE INPUT: true; the input reads as it did. -/
def shaOnwardSpec : ChangeSpec := { name := "shaOnward", fn := fun _ => fun
  | [d1, d2] => { results := [.lit (.bool true)], args := [d1, d2] }
  | _ => none }
def shaOnwardRow : OpenClaim := { program := "ytjdfgkjadobaaaa", sum := "118fcc35801e0f3e6b4fedff69929b622748327ec61edb04d25a746918348362", func := "erewhile/erewhilelaw03.ShaOnward", spec := "shaOnward", apart := false }
def ShaOnwardSaid : Prop := shaOnwardRow.holds Try.pinned (OpenSpec.ofChange shaOnwardSpec)

/-- ITS FALSE NEIGHBOUR: 'it returns false'. Refute it at one input. -/
def shaOnwardWrong : ChangeSpec := { name := "shaOnward", fn := fun _ => fun
  | [d1, d2] => { results := [.lit (.bool false)], args := [d1, d2] }
  | _ => none }
def ShaOnwardWrongFalsely : Prop := shaOnwardRow.holds Try.pinned (OpenSpec.ofChange shaOnwardWrong)

/-- 'erewhilelaw03.ShaBlocks': WHATEVER THE INPUT: true; the input reads as it did. -/
def shaBlocksSpec : ChangeSpec := { name := "shaBlocks", fn := fun _ => fun
  | [d] => { results := [.lit (.bool true)], args := [d] }
  | _ => none }
def shaBlocksRow : OpenClaim := { program := "ytjdfgkjadobaaaa", sum := "118fcc35801e0f3e6b4fedff69929b622748327ec61edb04d25a746918348362", func := "erewhile/erewhilelaw03.ShaBlocks", spec := "shaBlocks", apart := false }
def ShaBlocksSaid : Prop := shaBlocksRow.holds Try.pinned (OpenSpec.ofChange shaBlocksSpec)

/-- ITS FALSE NEIGHBOUR: 'it returns false'. Refute it at one input. -/
def shaBlocksWrong : ChangeSpec := { name := "shaBlocks", fn := fun _ => fun
  | [d] => { results := [.lit (.bool false)], args := [d] }
  | _ => none }
def ShaBlocksWrongFalsely : Prop := shaBlocksRow.holds Try.pinned (OpenSpec.ofChange shaBlocksWrong)

/-- 'erewhilelaw03.ShaWrites': WHATEVER THE INPUT: true; the input reads as it did. -/
def shaWritesSpec : ChangeSpec := { name := "shaWrites", fn := fun _ => fun
  | [d] => { results := [.lit (.bool true)], args := [d] }
  | _ => none }
def shaWritesRow : OpenClaim := { program := "ytjdfgkjadobaaaa", sum := "118fcc35801e0f3e6b4fedff69929b622748327ec61edb04d25a746918348362", func := "erewhile/erewhilelaw03.ShaWrites", spec := "shaWrites", apart := false }
def ShaWritesSaid : Prop := shaWritesRow.holds Try.pinned (OpenSpec.ofChange shaWritesSpec)

/-- ITS FALSE NEIGHBOUR: 'it returns false'. Refute it at one input. -/
def shaWritesWrong : ChangeSpec := { name := "shaWrites", fn := fun _ => fun
  | [d] => { results := [.lit (.bool false)], args := [d] }
  | _ => none }
def ShaWritesWrongFalsely : Prop := shaWritesRow.holds Try.pinned (OpenSpec.ofChange shaWritesWrong)

/-- 'erewhilelaw03.ShaTwo': WHATEVER THE INPUT: true; the input reads as it did. -/
def shaTwoSpec : ChangeSpec := { name := "shaTwo", fn := fun _ => fun
  | [d1, d2] => { results := [.lit (.bool true)], args := [d1, d2] }
  | _ => none }
def shaTwoRow : OpenClaim := { program := "ytjdfgkjadobaaaa", sum := "118fcc35801e0f3e6b4fedff69929b622748327ec61edb04d25a746918348362", func := "erewhile/erewhilelaw03.ShaTwo", spec := "shaTwo", apart := false }
def ShaTwoSaid : Prop := shaTwoRow.holds Try.pinned (OpenSpec.ofChange shaTwoSpec)

/-- ITS FALSE NEIGHBOUR: 'it returns false'. Refute it at one input. -/
def shaTwoWrong : ChangeSpec := { name := "shaTwo", fn := fun _ => fun
  | [d1, d2] => { results := [.lit (.bool false)], args := [d1, d2] }
  | _ => none }
def ShaTwoWrongFalsely : Prop := shaTwoRow.holds Try.pinned (OpenSpec.ofChange shaTwoWrong)

/- THE SECOND FORM. 'bulk': how many values and letters a reading holds, each counted each time it is reached (what is shared counts as often as it is met; a slice's spare places count too). A statement '..UptoSaid' is the law's where the arguments, and the package variables that the reading takes, are together of bulk at most 1048576: NARROWER than '..Said'. Prove '..Said' where nothing that the law and all that it calls make is longer than what came in: it says more and counts as full. Else prove '..UptoSaid'. A law counts once. -/
mutual
def uptoBulk {H : Type} : DataW H → Nat
  | .lit (.string bytes) => bytes.length + 1
  | .lit _ => 1
  | .nil => 1
  | .ptr d => uptoBulk d + 1
  | .slice elems spare => uptoBulkAll elems + uptoBulkAll spare + 1
  | .agg parts => uptoBulkAll parts + 1
  | .iface _ d => uptoBulk d + 1
  | .map entries => uptoBulkEntries entries + 1
  | .held _ => 1
def uptoBulkAll {H : Type} : List (DataW H) → Nat
  | [] => 0
  | d :: r => uptoBulk d + uptoBulkAll r
def uptoBulkEntries {H : Type} : List (Lit × DataW H) → Nat
  | [] => 0
  | x :: r => uptoBulkEntry x + uptoBulkEntries r
def uptoBulkEntry {H : Type} : Lit × DataW H → Nat
  | (.string bytes, d) => bytes.length + uptoBulk d + 1
  | (_, d) => uptoBulk d + 1
 end
def uptoSmall : (H : Type) → List (DataW H) → Bool := fun _ ds => decide (uptoBulkAll ds ≤ 1048576)
def OpenSpec.upto (s : _root_.Go.ChangeSpec) : _root_.Go.OpenSpec := { _root_.Go.OpenSpec.ofChange s with cond := some uptoSmall }

/-- 'erewhilelaw03.ShaPads', WHERE WHAT IT READS IS OF BULK AT MOST 1048576: true; the input reads as it did. -/
def shaPadsUptoRow : OpenClaim := { program := "ytjdfgkjadobaaaa", sum := "118fcc35801e0f3e6b4fedff69929b622748327ec61edb04d25a746918348362", func := "erewhile/erewhilelaw03.ShaPads", spec := "shaPads", apart := false, narrowed := true }
def ShaPadsUptoSaid : Prop := shaPadsUptoRow.holds Try.pinned (OpenSpec.upto shaPadsSpec)

/-- 'erewhilelaw03.ShaApart', WHERE WHAT IT READS IS OF BULK AT MOST 1048576: true; the input reads as it did. -/
def shaApartUptoRow : OpenClaim := { program := "ytjdfgkjadobaaaa", sum := "118fcc35801e0f3e6b4fedff69929b622748327ec61edb04d25a746918348362", func := "erewhile/erewhilelaw03.ShaApart", spec := "shaApart", apart := false, narrowed := true }
def ShaApartUptoSaid : Prop := shaApartUptoRow.holds Try.pinned (OpenSpec.upto shaApartSpec)

/-- 'erewhilelaw03.ShaCompress', WHERE WHAT IT READS IS OF BULK AT MOST 1048576: true; the input reads as it did. -/
def shaCompressUptoRow : OpenClaim := { program := "ytjdfgkjadobaaaa", sum := "118fcc35801e0f3e6b4fedff69929b622748327ec61edb04d25a746918348362", func := "erewhile/erewhilelaw03.ShaCompress", spec := "shaCompress", apart := false, narrowed := true }
def ShaCompressUptoSaid : Prop := shaCompressUptoRow.holds Try.pinned (OpenSpec.upto shaCompressSpec)

/-- 'erewhilelaw03.ShaSums', WHERE WHAT IT READS IS OF BULK AT MOST 1048576: true; the input reads as it did. -/
def shaSumsUptoRow : OpenClaim := { program := "ytjdfgkjadobaaaa", sum := "118fcc35801e0f3e6b4fedff69929b622748327ec61edb04d25a746918348362", func := "erewhile/erewhilelaw03.ShaSums", spec := "shaSums", apart := false, narrowed := true }
def ShaSumsUptoSaid : Prop := shaSumsUptoRow.holds Try.pinned (OpenSpec.upto shaSumsSpec)

/-- 'erewhilelaw03.ShaJoins', WHERE WHAT IT READS IS OF BULK AT MOST 1048576: true; the input reads as it did. -/
def shaJoinsUptoRow : OpenClaim := { program := "ytjdfgkjadobaaaa", sum := "118fcc35801e0f3e6b4fedff69929b622748327ec61edb04d25a746918348362", func := "erewhile/erewhilelaw03.ShaJoins", spec := "shaJoins", apart := false, narrowed := true }
def ShaJoinsUptoSaid : Prop := shaJoinsUptoRow.holds Try.pinned (OpenSpec.upto shaJoinsSpec)

/-- 'erewhilelaw03.ShaOnward', WHERE WHAT IT READS IS OF BULK AT MOST 1048576: true; the input reads as it did. -/
def shaOnwardUptoRow : OpenClaim := { program := "ytjdfgkjadobaaaa", sum := "118fcc35801e0f3e6b4fedff69929b622748327ec61edb04d25a746918348362", func := "erewhile/erewhilelaw03.ShaOnward", spec := "shaOnward", apart := false, narrowed := true }
def ShaOnwardUptoSaid : Prop := shaOnwardUptoRow.holds Try.pinned (OpenSpec.upto shaOnwardSpec)

/-- 'erewhilelaw03.ShaBlocks', WHERE WHAT IT READS IS OF BULK AT MOST 1048576: true; the input reads as it did. -/
def shaBlocksUptoRow : OpenClaim := { program := "ytjdfgkjadobaaaa", sum := "118fcc35801e0f3e6b4fedff69929b622748327ec61edb04d25a746918348362", func := "erewhile/erewhilelaw03.ShaBlocks", spec := "shaBlocks", apart := false, narrowed := true }
def ShaBlocksUptoSaid : Prop := shaBlocksUptoRow.holds Try.pinned (OpenSpec.upto shaBlocksSpec)

/-- 'erewhilelaw03.ShaWrites', WHERE WHAT IT READS IS OF BULK AT MOST 1048576: true; the input reads as it did. -/
def shaWritesUptoRow : OpenClaim := { program := "ytjdfgkjadobaaaa", sum := "118fcc35801e0f3e6b4fedff69929b622748327ec61edb04d25a746918348362", func := "erewhile/erewhilelaw03.ShaWrites", spec := "shaWrites", apart := false, narrowed := true }
def ShaWritesUptoSaid : Prop := shaWritesUptoRow.holds Try.pinned (OpenSpec.upto shaWritesSpec)

/-- 'erewhilelaw03.ShaTwo', WHERE WHAT IT READS IS OF BULK AT MOST 1048576: true; the input reads as it did. -/
def shaTwoUptoRow : OpenClaim := { program := "ytjdfgkjadobaaaa", sum := "118fcc35801e0f3e6b4fedff69929b622748327ec61edb04d25a746918348362", func := "erewhile/erewhilelaw03.ShaTwo", spec := "shaTwo", apart := false, narrowed := true }
def ShaTwoUptoSaid : Prop := shaTwoUptoRow.holds Try.pinned (OpenSpec.upto shaTwoSpec)

end Rows
end Go.Proofs.Ytjdfgkjadobaaaa

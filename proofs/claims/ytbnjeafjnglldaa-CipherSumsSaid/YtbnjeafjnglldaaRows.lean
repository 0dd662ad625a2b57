/-
  No cell of these rows narrows 'for every input' (looked for: loops, veiled, ifaces, maps, wideKeys, modest, calm, conditions, laid).
  DERIVED. THE GIVEN ROWS OF THIS SEAT. 7 by the template 'for every input the law returns true; each argument reads behind the call as it read before'; 0 by the template 'total and deterministic' (their statements: YtbnjeafjnglldaaTotals.lean).
  GIVEN WITH THE SEED: the statements are not yours to turn. If you find one false, say at which input.
  Laid BY PROGRAM, IN A SANDBOX (cutbox-rows.mjs): the forced cells as the released guide's own fill.sh prints them over the translation b7d3994b99350563… (all of the seat's roots in one cut). By AI agents, Wed Nov 11 2026. No macro, syntax, notation, axiom, sorry.
-/
import Derived.Test.YtbnjeafjnglldaaChecked
import GoSem.Claim
import GoSem.ClaimJoined
import GoSem.ClaimMapViews
import Derived.JoinedTies
import Derived.KernelRfl
namespace Go.Proofs.Ytbnjeafjnglldaa
/- THE CELL 'sum', in the pinned program and in every row, IS THE sha256 OF THE DUMP (.gsa) THAT YtbnjeafjnglldaaProg.lean LOADS. Nothing in Lean hashes anything: it is a label: what it is worth is what the hold of that sum in a sandbox is worth. -/
noncomputable def Try.pinned : Pinned := { name := "ytbnjeafjnglldaa", sum := "b7d3994b9935056390686de2e0a9de4e1ffbee996c1732942acdf423aae3cf49", checked := Try.checked }
namespace Rows
def none {H : Type} : Left H := { results := [], args := [] }

/-- 'erewhilelaw05.CipherHides': WHATEVER THE INPUT: true; the input reads as it did. -/
def cipherHidesSpec : ChangeSpec := { name := "cipherHides", fn := fun _ => fun
  | [d1, d2, d3] => { results := [.lit (.bool true)], args := [d1, d2, d3] }
  | _ => none }
def cipherHidesRow : OpenClaim := { program := "ytbnjeafjnglldaa", sum := "b7d3994b9935056390686de2e0a9de4e1ffbee996c1732942acdf423aae3cf49", func := "erewhile/erewhilelaw05.CipherHides", spec := "cipherHides", unfollowed := true, recurses := true, apart := false }
def CipherHidesSaid : Prop := cipherHidesRow.holds Try.pinned (OpenSpec.ofChange cipherHidesSpec)

/-- ITS FALSE NEIGHBOUR: 'it returns false'. Refute it at one input. -/
def cipherHidesWrong : ChangeSpec := { name := "cipherHides", fn := fun _ => fun
  | [d1, d2, d3] => { results := [.lit (.bool false)], args := [d1, d2, d3] }
  | _ => none }
def CipherHidesWrongFalsely : Prop := cipherHidesRow.holds Try.pinned (OpenSpec.ofChange cipherHidesWrong)

/-- 'erewhilelaw05.CipherTwice': WHATEVER THE INPUT: true; the input reads as it did. -/
def cipherTwiceSpec : ChangeSpec := { name := "cipherTwice", fn := fun _ => fun
  | [d1, d2, d3, d4] => { results := [.lit (.bool true)], args := [d1, d2, d3, d4] }
  | _ => none }
def cipherTwiceRow : OpenClaim := { program := "ytbnjeafjnglldaa", sum := "b7d3994b9935056390686de2e0a9de4e1ffbee996c1732942acdf423aae3cf49", func := "erewhile/erewhilelaw05.CipherTwice", spec := "cipherTwice", unfollowed := true, recurses := true, apart := false }
def CipherTwiceSaid : Prop := cipherTwiceRow.holds Try.pinned (OpenSpec.ofChange cipherTwiceSpec)

/-- ITS FALSE NEIGHBOUR: 'it returns false'. Refute it at one input. -/
def cipherTwiceWrong : ChangeSpec := { name := "cipherTwice", fn := fun _ => fun
  | [d1, d2, d3, d4] => { results := [.lit (.bool false)], args := [d1, d2, d3, d4] }
  | _ => none }
def CipherTwiceWrongFalsely : Prop := cipherTwiceRow.holds Try.pinned (OpenSpec.ofChange cipherTwiceWrong)

/-- 'erewhilelaw05.CipherFronts': WHATEVER THE INPUT: true; the input reads as it did. -/
def cipherFrontsSpec : ChangeSpec := { name := "cipherFronts", fn := fun _ => fun
  | [d1, d2, d3, d4] => { results := [.lit (.bool true)], args := [d1, d2, d3, d4] }
  | _ => none }
def cipherFrontsRow : OpenClaim := { program := "ytbnjeafjnglldaa", sum := "b7d3994b9935056390686de2e0a9de4e1ffbee996c1732942acdf423aae3cf49", func := "erewhile/erewhilelaw05.CipherFronts", spec := "cipherFronts", unfollowed := true, recurses := true, apart := false }
def CipherFrontsSaid : Prop := cipherFrontsRow.holds Try.pinned (OpenSpec.ofChange cipherFrontsSpec)

/-- ITS FALSE NEIGHBOUR: 'it returns false'. Refute it at one input. -/
def cipherFrontsWrong : ChangeSpec := { name := "cipherFronts", fn := fun _ => fun
  | [d1, d2, d3, d4] => { results := [.lit (.bool false)], args := [d1, d2, d3, d4] }
  | _ => none }
def CipherFrontsWrongFalsely : Prop := cipherFrontsRow.holds Try.pinned (OpenSpec.ofChange cipherFrontsWrong)

/-- 'erewhilelaw05.CipherReal': WHATEVER THE INPUT: true; the input reads as it did. -/
def cipherRealSpec : ChangeSpec := { name := "cipherReal", fn := fun _ => fun
  | [d1, d2] => { results := [.lit (.bool true)], args := [d1, d2] }
  | _ => none }
def cipherRealRow : OpenClaim := { program := "ytbnjeafjnglldaa", sum := "b7d3994b9935056390686de2e0a9de4e1ffbee996c1732942acdf423aae3cf49", func := "erewhile/erewhilelaw05.CipherReal", spec := "cipherReal", unfollowed := true, recurses := true, apart := false }
def CipherRealSaid : Prop := cipherRealRow.holds Try.pinned (OpenSpec.ofChange cipherRealSpec)

/-- ITS FALSE NEIGHBOUR: 'it returns false'. Refute it at one input. -/
def cipherRealWrong : ChangeSpec := { name := "cipherReal", fn := fun _ => fun
  | [d1, d2] => { results := [.lit (.bool false)], args := [d1, d2] }
  | _ => none }
def CipherRealWrongFalsely : Prop := cipherRealRow.holds Try.pinned (OpenSpec.ofChange cipherRealWrong)

/-- 'erewhilelaw05.CipherStream': WHATEVER THE INPUT: true; the input reads as it did. -/
def cipherStreamSpec : ChangeSpec := { name := "cipherStream", fn := fun _ => fun
  | [d1, d2, d3] => { results := [.lit (.bool true)], args := [d1, d2, d3] }
  | _ => none }
def cipherStreamRow : OpenClaim := { program := "ytbnjeafjnglldaa", sum := "b7d3994b9935056390686de2e0a9de4e1ffbee996c1732942acdf423aae3cf49", func := "erewhile/erewhilelaw05.CipherStream", spec := "cipherStream", unfollowed := true, recurses := true, apart := false }
def CipherStreamSaid : Prop := cipherStreamRow.holds Try.pinned (OpenSpec.ofChange cipherStreamSpec)

/-- ITS FALSE NEIGHBOUR: 'it returns false'. Refute it at one input. -/
def cipherStreamWrong : ChangeSpec := { name := "cipherStream", fn := fun _ => fun
  | [d1, d2, d3] => { results := [.lit (.bool false)], args := [d1, d2, d3] }
  | _ => none }
def CipherStreamWrongFalsely : Prop := cipherStreamRow.holds Try.pinned (OpenSpec.ofChange cipherStreamWrong)

/-- 'erewhilelaw05.CipherSums': WHATEVER THE INPUT: true; the input reads as it did. -/
def cipherSumsSpec : ChangeSpec := { name := "cipherSums", fn := fun _ => fun
  | [d1, d2] => { results := [.lit (.bool true)], args := [d1, d2] }
  | _ => none }
def cipherSumsRow : OpenClaim := { program := "ytbnjeafjnglldaa", sum := "b7d3994b9935056390686de2e0a9de4e1ffbee996c1732942acdf423aae3cf49", func := "erewhile/erewhilelaw05.CipherSums", spec := "cipherSums", unfollowed := true, recurses := true, apart := false }
def CipherSumsSaid : Prop := cipherSumsRow.holds Try.pinned (OpenSpec.ofChange cipherSumsSpec)

/-- ITS FALSE NEIGHBOUR: 'it returns false'. Refute it at one input. -/
def cipherSumsWrong : ChangeSpec := { name := "cipherSums", fn := fun _ => fun
  | [d1, d2] => { results := [.lit (.bool false)], args := [d1, d2] }
  | _ => none }
def CipherSumsWrongFalsely : Prop := cipherSumsRow.holds Try.pinned (OpenSpec.ofChange cipherSumsWrong)

/-- 'erewhilelaw05.CipherApart': WHATEVER THE INPUT: true; the input reads as it did. -/
def cipherApartSpec : ChangeSpec := { name := "cipherApart", fn := fun _ => fun
  | [d1, d2] => { results := [.lit (.bool true)], args := [d1, d2] }
  | _ => none }
def cipherApartRow : OpenClaim := { program := "ytbnjeafjnglldaa", sum := "b7d3994b9935056390686de2e0a9de4e1ffbee996c1732942acdf423aae3cf49", func := "erewhile/erewhilelaw05.CipherApart", spec := "cipherApart", unfollowed := true, recurses := true, apart := false }
def CipherApartSaid : Prop := cipherApartRow.holds Try.pinned (OpenSpec.ofChange cipherApartSpec)

/-- ITS FALSE NEIGHBOUR: 'it returns false'. Refute it at one input. -/
def cipherApartWrong : ChangeSpec := { name := "cipherApart", fn := fun _ => fun
  | [d1, d2] => { results := [.lit (.bool false)], args := [d1, d2] }
  | _ => none }
def CipherApartWrongFalsely : Prop := cipherApartRow.holds Try.pinned (OpenSpec.ofChange cipherApartWrong)

/- THE SECOND FORM. 'bulk': how many values and letters a reading holds, each counted each time it is reached (what is shared counts as often as it is met; a slice's spare places count too). A statement '..UptoSaid' is the law's where the arguments, and the package variables that the reading takes, are together of bulk at most 1048576: NARROWER than '..Said'. Prove '..Said' where nothing that the law and all that it calls make is longer than what came in: it says more and counts as full. Else prove '..UptoSaid'. A law counts once. -/
mutual
def uptoBulk {H : Type} : DataW H → Nat
  | .lit (.string bytes) => bytes.length + 1
  | .lit _ => 1
  | .nil => 1
  | .ptr d => uptoBulk d + 1
  | .slice elems spare => uptoBulkAll elems + uptoBulkAll spare + 1
  | .agg parts => uptoBulkAll parts + 1
  | .iface _ d => uptoBulk d + 1
  | .map entries => uptoBulkEntries entries + 1
  | .held _ => 1
def uptoBulkAll {H : Type} : List (DataW H) → Nat
  | [] => 0
  | d :: r => uptoBulk d + uptoBulkAll r
def uptoBulkEntries {H : Type} : List (Lit × DataW H) → Nat
  | [] => 0
  | x :: r => uptoBulkEntry x + uptoBulkEntries r
def uptoBulkEntry {H : Type} : Lit × DataW H → Nat
  | (.string bytes, d) => bytes.length + uptoBulk d + 1
  | (_, d) => uptoBulk d + 1
 end
def uptoSmall : (H : Type) → List (DataW H) → Bool := fun _ ds => decide (uptoBulkAll ds ≤ 1048576)
def OpenSpec.upto (s : _root_.Go.ChangeSpec) : _root_.Go.OpenSpec := { _root_.Go.OpenSpec.ofChange s with cond := some uptoSmall }

/-- 'erewhilelaw05.CipherHides', WHERE WHAT IT READS IS OF BULK AT MOST 1048576: true; the input reads as it did. -/
def cipherHidesUptoRow : OpenClaim := { program := "ytbnjeafjnglldaa", sum := "b7d3994b9935056390686de2e0a9de4e1ffbee996c1732942acdf423aae3cf49", func := "erewhile/erewhilelaw05.CipherHides", spec := "cipherHides", unfollowed := true, recurses := true, apart := false, narrowed := true }
def CipherHidesUptoSaid : Prop := cipherHidesUptoRow.holds Try.pinned (OpenSpec.upto cipherHidesSpec)

/-- 'erewhilelaw05.CipherTwice', WHERE WHAT IT READS IS OF BULK AT MOST 1048576: true; the input reads as it did. -/
def cipherTwiceUptoRow : OpenClaim := { program := "ytbnjeafjnglldaa", sum := "b7d3994b9935056390686de2e0a9de4e1ffbee996c1732942acdf423aae3cf49", func := "erewhile/erewhilelaw05.CipherTwice", spec := "cipherTwice", unfollowed := true, recurses := true, apart := false, narrowed := true }
def CipherTwiceUptoSaid : Prop := cipherTwiceUptoRow.holds Try.pinned (OpenSpec.upto cipherTwiceSpec)

/-- 'erewhilelaw05.CipherFronts', WHERE WHAT IT READS IS OF BULK AT MOST 1048576: true; the input reads as it did. -/
def cipherFrontsUptoRow : OpenClaim := { program := "ytbnjeafjnglldaa", sum := "b7d3994b9935056390686de2e0a9de4e1ffbee996c1732942acdf423aae3cf49", func := "erewhile/erewhilelaw05.CipherFronts", spec := "cipherFronts", unfollowed := true, recurses := true, apart := false, narrowed := true }
def CipherFrontsUptoSaid : Prop := cipherFrontsUptoRow.holds Try.pinned (OpenSpec.upto cipherFrontsSpec)

/-- 'erewhilelaw05.CipherReal', WHERE WHAT IT READS IS OF BULK AT MOST 1048576: true; the input reads as it did. -/
def cipherRealUptoRow : OpenClaim := { program := "ytbnjeafjnglldaa", sum := "b7d3994b9935056390686de2e0a9de4e1ffbee996c1732942acdf423aae3cf49", func := "erewhile/erewhilelaw05.CipherReal", spec := "cipherReal", unfollowed := true, recurses := true, apart := false, narrowed := true }
def CipherRealUptoSaid : Prop := cipherRealUptoRow.holds Try.pinned (OpenSpec.upto cipherRealSpec)

/-- 'erewhilelaw05.CipherStream', WHERE WHAT IT READS IS OF BULK AT MOST 1048576: true; the input reads as it did. -/
def cipherStreamUptoRow : OpenClaim := { program := "ytbnjeafjnglldaa", sum := "b7d3994b9935056390686de2e0a9de4e1ffbee996c1732942acdf423aae3cf49", func := "erewhile/erewhilelaw05.CipherStream", spec := "cipherStream", unfollowed := true, recurses := true, apart := false, narrowed := true }
def CipherStreamUptoSaid : Prop := cipherStreamUptoRow.holds Try.pinned (OpenSpec.upto cipherStreamSpec)

/-- 'erewhilelaw05.CipherSums', WHERE WHAT IT READS IS OF BULK AT MOST 1048576: true; the input reads as it did. -/
def cipherSumsUptoRow : OpenClaim := { program := "ytbnjeafjnglldaa", sum := "b7d3994b9935056390686de2e0a9de4e1ffbee996c1732942acdf423aae3cf49", func := "erewhile/erewhilelaw05.CipherSums", spec := "cipherSums", unfollowed := true, recurses := true, apart := false, narrowed := true }
def CipherSumsUptoSaid : Prop := cipherSumsUptoRow.holds Try.pinned (OpenSpec.upto cipherSumsSpec)

/-- 'erewhilelaw05.CipherApart', WHERE WHAT IT READS IS OF BULK AT MOST 1048576: true; the input reads as it did. -/
def cipherApartUptoRow : OpenClaim := { program := "ytbnjeafjnglldaa", sum := "b7d3994b9935056390686de2e0a9de4e1ffbee996c1732942acdf423aae3cf49", func := "erewhile/erewhilelaw05.CipherApart", spec := "cipherApart", unfollowed := true, recurses := true, apart := false, narrowed := true }
def CipherApartUptoSaid : Prop := cipherApartUptoRow.holds Try.pinned (OpenSpec.upto cipherApartSpec)

end Rows
end Go.Proofs.Ytbnjeafjnglldaa

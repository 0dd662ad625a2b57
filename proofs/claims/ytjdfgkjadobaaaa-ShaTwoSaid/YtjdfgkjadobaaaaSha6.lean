/- A first text, written. -/
import Derived.Test.YtjdfgkjadobaaaaSha2
namespace Go.Proofs.Ytjdfgkjadobaaaa
open Go Go.Proofs.Ytjdfgkjadobaaaa.Sy
set_option linter.unusedVariables false

theorem write_first {α : Type} (E : α → Option (Row α)) (x : α) (l b : List Int) (hx : E x = some (.ints .u8 l)) (o : Nat) (ho : o + b.length ≤ l.length) (hs : sub l o b.length = b) (hl : b.length ≤ 1099511627776) (f : Bool) :
    FnOk Try.prog n_sha_Hash_Write E [.ptr (.own 0) 0, .slice f (.ext x) o b.length 1] [some (.mixed [.slice true (.own 1) 0 0 1]), some (.ints .u8 [])] (.tuple []) [some (.mixed [.slice true (.own 2) 0 b.length 1]), none, some (.ints .u8 b)] :=
  write_ok E x l [] b hx o ho hs (by simpa using hl) f
end Go.Proofs.Ytjdfgkjadobaaaa

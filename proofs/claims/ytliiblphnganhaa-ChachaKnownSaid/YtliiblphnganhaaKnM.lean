/- The bytes that are known. -/
import Derived.Test.YtliiblphnganhaaChaM2
namespace Go.Proofs.Ytliiblphnganhaa
open Go Go.Proofs.Ytliiblphnganhaa.Sy
set_option linter.unusedSimpArgs false
set_option linter.unusedVariables false
set_option maxRecDepth 100000

def knownB : ByteArray := (ByteArray.mk (List.toArray (List.append (List.append [55, 54, 98, 56, 101, 48, 97, 100, 97, 48, 102, 49, 51, 100, 57, 48, 52, 48, 53, 100, 54, 97, 101, 53, 53, 51, 56, 54, 98, 100, 50, 56, 98, 100, 100, 50, 49, 57, 98, 56, 97, 48, 56, 100, 101, 100, 49, 97, 97, 56, 51, 54, 101, 102, 99, 99, 56, 98, 55, 55, 48, 100, 99, 55] [100, 97, 52, 49, 53, 57, 55, 99, 53, 49, 53, 55, 52, 56, 56, 100, 55, 55, 50, 52, 101, 48, 51, 102, 98, 56, 100, 56, 52, 97, 51, 55, 54, 97, 52, 51, 98, 56, 102, 52, 49, 53, 49, 56, 97, 49, 49, 99, 99, 51, 56, 55, 98, 54, 54, 57, 98, 50, 101, 101, 54, 53, 56, 54]) (List.append [57, 102, 48, 55, 101, 55, 98, 101, 53, 53, 53, 49, 51, 56, 55, 97, 57, 56, 98, 97, 57, 55, 55, 99, 55, 51, 50, 100, 48, 56, 48, 100, 99, 98, 48, 102, 50, 57, 97, 48, 52, 56, 101, 51, 54, 53, 54, 57, 49, 50, 99, 54, 53, 51, 51, 101, 51, 50, 101, 101, 55, 97, 101, 100] [50, 57, 98, 55, 50, 49, 55, 54, 57, 99, 101, 54, 52, 101, 52, 51, 100, 53, 55, 49, 51, 51, 98, 48, 55, 52, 100, 56, 51, 57, 100, 53, 51, 49, 101, 100, 49, 102, 50, 56, 53, 49, 48, 97, 102, 98, 52, 53, 97, 99, 101, 49, 48, 97, 49, 102, 52, 98, 55, 57, 52, 100, 54, 102]))))
def hexB : ByteArray := ByteArray.mk #[48, 49, 50, 51, 52, 53, 54, 55, 56, 57, 97, 98, 99, 100, 101, 102]
def rowK : List Int := [118, 184, 224, 173, 160, 241, 61, 144, 64, 93, 106, 229, 83, 134, 189, 40, 189, 210, 25, 184, 160, 141, 237, 26, 168, 54, 239, 204, 139, 119, 13, 199, 218, 65, 89, 124, 81, 87, 72, 141, 119, 36, 224, 63, 184, 216, 74, 55, 106, 67, 184, 244, 21, 24, 161, 28, 195, 135, 182, 105, 178, 238, 101, 134, 159, 7, 231, 190, 85, 81, 56, 122, 152, 186, 151, 124, 115, 45, 8, 13, 203, 15, 41, 160, 72, 227, 101, 105, 18, 198, 83, 62, 50, 238, 122, 237, 41, 183, 33, 118, 156, 230, 78, 67, 213, 113, 51, 176, 116, 216, 57, 213, 49, 237, 31, 40, 81, 10, 251, 69, 172, 225, 10, 31, 75, 121, 77, 111]
theorem row_two : catN (List.replicate 32 0) 0 2 = rowK := by decide +kernel
theorem row_one : catN (List.replicate 32 0) 0 1 = rowK.take 64 := by decide +kernel
theorem row_get (m : Nat) (h : m = 1 ∨ m = 2) (i : Nat) (hi : i < 64 * m) : (catN (List.replicate 32 0) 0 m).getD i 0 = rowK.getD i 0 := by
  rcases h with rfl | rfl
  · rw [row_one]; simp [List.getD_eq_getElem?_getD, List.getElem?_take_of_lt (show i < 64 by omega)]
  · rw [row_two]
theorem size_k : knownB.size = 256 := by decide +kernel
theorem size_h : hexB.size = 16 := by decide +kernel
theorem hexes : ∀ i : Fin 128, ((knownB.data.getD (2 * i.1) 0).toNat : Int) = ((hexB.data.getD (ishr .u8 (rowK.getD i.1 0) 4).toNat 0).toNat : Int) ∧ ((knownB.data.getD (2 * i.1 + 1) 0).toNat : Int) = ((hexB.data.getD (iand .u8 (rowK.getD i.1 0) 15).toNat 0).toNat : Int) ∧
    (0 ≤ ishr .u8 (rowK.getD i.1 0) 4 ∧ ishr .u8 (rowK.getD i.1 0) 4 < 16) ∧ (0 ≤ iand .u8 (rowK.getD i.1 0) 15 ∧ iand .u8 (rowK.getD i.1 0) 15 < 16) := by decide +kernel
end Go.Proofs.Ytliiblphnganhaa

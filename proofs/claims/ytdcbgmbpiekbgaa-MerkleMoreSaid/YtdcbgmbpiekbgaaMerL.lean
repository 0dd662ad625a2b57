/- Plain: what the laws say of the rows of a tree. -/
import Derived.Test.YtdcbgmbpiekbgaaMer9
namespace Go.Proofs.Ytdcbgmbpiekbgaa
open Go Go.Proofs.Ytdcbgmbpiekbgaa.Sy
set_option linter.unusedSimpArgs false
set_option linter.unusedVariables false
section
variable {α : Type}
theorem growR_in (l : List Int) : ∀ (n b o k : Nat), 1 ≤ n → b + (2 * n - 1) ≤ k → ∀ r, some r ∈ (growR l b o n : Sy.Rows α) → r.All (inS k) := by
  intro n
  induction n using Nat.strongRecOn with
  | _ n ih =>
    intro b o k hn hk r hr
    rcases (show n = 1 ∨ 2 ≤ n by omega) with rfl | h
    · rw [growR_one, List.mem_singleton] at hr
      cases hr
      simp [Row.All, nodeC, allL_flat, AV.AllL, AV.All]
    · rw [growR_two _ _ _ h, List.mem_append, List.mem_append, List.mem_singleton] at hr
      rcases hr with (hr | hr) | hr
      · exact ih _ (by omega) _ _ _ (by omega) (by omega) r hr
      · exact ih _ (by omega) _ _ _ (by omega) (by omega) r hr
      · cases hr
        simp only [Row.All, nodeC, allL_flat, AV.AllL, AV.All, inS]
        refine ⟨trivial, ?_, ?_, trivial⟩ <;> omega
theorem leRows_self {k : Nat} : ∀ {rows : Sy.Rows α}, (∀ r, some r ∈ rows → r.All (inS k)) → leRows k rows rows
  | [], _ => by simp [leRows]
  | none :: rs, h => by
    simp only [leRows]
    exact ⟨trivial, leRows_self fun r hr => h r (List.mem_cons_of_mem _ hr)⟩
  | some q :: rs, h => by
    unfold leRows
    exact ⟨⟨rfl, h q (List.mem_cons_self ..)⟩, leRows_self fun r hr => h r (List.mem_cons_of_mem _ hr)⟩
end
end Go.Proofs.Ytdcbgmbpiekbgaa

/- Drawn regions whose branches come together in a state that is told by a property; two indexes. -/
import Derived.Test.YthbpflnbgcdmiaaFinA
namespace Go.Proofs.Ythbpflnbgcdmiaa
open Go Go.Proofs.Ythbpflnbgcdmiaa.Sy
set_option linter.unusedSimpArgs false
set_option linter.unusedVariables false

theorem AWp.drwI {α : Type} {P : Program} {E : α → Option (Row α)} {n : Sz} {st : St α} {Q : Exit → St α → Prop} {id : Nat} {ops : Array Oper} {y : Code} (hmix : P.follows .mixedOrders = true) (pc : PC) (qs : List Nat) (dg : List Dg) (sp : SP) (I : St α → Prop) (hm : mkSP ops qs n.n pc = some sp) (hp : pcB ops qs dg pc = true)
    (h : ∀ K : St α → Prop, (∀ st' st, Le n st' st → I st → K st') → sp.wp P E st K) (hy : ∀ st, I st → AWp P E n y st Q) : AWp P E n (.seq (.region id ops true) y) st Q :=
  AWp.drwP hmix pc qs dg sp hm hp fun K hK => h K fun st' st hl hI => hK st' (AWp.less hl (hy st hI))
/-- Two indexes beside one another. -/
theorem Fr.two {α : Type} {rows rows' : Sy.Rows α} {S S' T : List Nat} {X : Nat} {c : AV (Sy.Id α)} {k : List Int} {F : Int → List Int → Prop} {cnt : Nat} (h : Fr rows S rows' S') (hI : Idx rows T X c k F cnt) (hd : ∀ z, z ∈ S → z ∉ T) : Idx rows' T X c k F cnt ∧ ∀ z, z ∈ S' → z ∉ T := by
  refine ⟨hI.same fun i hi => h.out i (hI.lt hi) fun hs => hd i hs hi, fun z hz hT => ?_⟩
  rcases h.new z hz with h1 | h1
  · exact hd z h1 hT
  · have := hI.lt hT; omega
end Go.Proofs.Ythbpflnbgcdmiaa

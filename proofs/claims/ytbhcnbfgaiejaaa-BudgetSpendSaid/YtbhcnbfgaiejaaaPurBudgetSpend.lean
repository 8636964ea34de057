/- The pure law of BudgetSpend: its walk has shown that it answers true. -/
import Derived.Test.YtbhcnbfgaiejaaaPBudx5
import Derived.OpenShut
set_option linter.unusedVariables false
namespace Go.Proofs.Ytbhcnbfgaiejaaa.Pure
open Go.RowKit Go.Proofs.Ytbhcnbfgaiejaaa.PBud Go.Proofs.Ytbhcnbfgaiejaaa.Bud
theorem BudgetSpend (a0 : Int) (l1 : List Int)  (a2 : Int) (h0 : (Lit.int .i64 a0).wf = true) (h1 : l1.length * 8 ≤ 140737488351232) (h2 : ∀ x ∈ l1, (Lit.int .i64 x).wf = true) (h3 : (Lit.int .i64 a2).wf = true) : intervalmonlaw17_BudgetSpend.f a0 l1 a2 = some true := by
  unfold intervalmonlaw17_BudgetSpend.f
  have b0 := bounds_i64 h0
  have b3 := bounds_i64 h3
  rw [if_pos ⟨inIb_iff.2 ⟨by omega, by omega⟩, List.all_eq_true.2 (fun x hx => inIb_iff.2 (by have := bounds_i64 (h2 x hx); exact ⟨by omega, by omega⟩)), by omega, inIb_iff.2 ⟨by omega, by omega⟩⟩]
end Go.Proofs.Ytbhcnbfgaiejaaa.Pure

/- The pure law of ClockTicks. -/
import Derived.Test.YthmbpipeogdejaaClkC
import Derived.OpenShut
namespace Go.Proofs.Ythmbpipeogdejaa.Pure
open Go.RowKit Go.Proofs.Ythmbpipeogdejaa.PClk
set_option linter.unusedVariables false
theorem ClockTicks (a0 : Int) (l1 : List S39)  (a2 : Int) (h0 : (Lit.int .i64 a0).wf = true) (h1 : l1.length * 24 ≤ 140737488351232) (h2 : ∀ x ∈ l1, (Lit.int .i64 x.f0).wf = true ∧ (Lit.int .i64 x.f1).wf = true ∧ (Lit.int .i64 x.f2).wf = true) (h3 : (Lit.int .i64 a2).wf = true) : ∃ k, intervalmonlaw09_ClockTicks.f k a0 l1 a2 = some true := by
  have := bounds_i64 h3
  exact Clk.ClockTicks_pure a0 l1 a2 (by omega) (by omega)
theorem ClockOffset (a0 : Int) (l1 : List S39)  (a2 : Int) (h0 : (Lit.int .i64 a0).wf = true) (h1 : l1.length * 24 ≤ 140737488351232) (h2 : ∀ x ∈ l1, (Lit.int .i64 x.f0).wf = true ∧ (Lit.int .i64 x.f1).wf = true ∧ (Lit.int .i64 x.f2).wf = true) (h3 : (Lit.int .i64 a2).wf = true) : ∃ k, intervalmonlaw09_ClockOffset.f k a0 l1 a2 = some true := Clk.ClockOffset_pure a0 l1 a2
theorem ClockValid (a0 : Int) (l1 : List S39)  (h0 : (Lit.int .i64 a0).wf = true) (h1 : l1.length * 24 ≤ 140737488351232) (h2 : ∀ x ∈ l1, (Lit.int .i64 x.f0).wf = true ∧ (Lit.int .i64 x.f1).wf = true ∧ (Lit.int .i64 x.f2).wf = true) : ∃ k, intervalmonlaw09_ClockValid.f k a0 l1 = some true := Clk.ClockValid_pure a0 l1
end Go.Proofs.Ythmbpipeogdejaa.Pure

/- The pure law of ClockTicks: the Lean function that is printed of it answers true. -/
import Derived.Test.YthmbpipeogdejaaClkC2
import Derived.Test.YthmbpipeogdejaaClkR
import Derived.Test.YthmbpipeogdejaaPClkx17
import Derived.OpenShut
namespace Go.Proofs.Ythmbpipeogdejaa.Clk
set_option linter.unusedVariables false
open Go.RowKit Go.Proofs.Ythmbpipeogdejaa.PClk Go.Proofs.YthmbpipeogdejaaW.PrintWords Go.Proofs.YthmbpipeogdejaaW.PrintLast Go.Proofs.YthmbpipeogdejaaW.PrintMore
theorem ClockTicks_pure (a : Int) (l : List S39) (d : Int) (hd0 : -9223372036854775808 ≤ d) (hd1 : d ≤ 9223372036854775807) : ∃ k, intervalmonlaw09_ClockTicks.f k a l d = some true := by
  refine Ev.rounds (g := fun k => intervalmonlaw09_ClockTicks.f k a l d) ?_
  unfold intervalmonlaw09_ClockTicks.f
  rw [few_ev]
  simp only [Option.bind_some]
  refine Ev.bind (ticks_ev a d (l.take 16) (by simp; omega)) (Ev.bind (ref_ticks_ev a d (l.take 16) (by simp; omega) hd0 hd1) ?_)
  simp only [if_true]
  exact Ev.bind lives_ev (Ev.now true)
end Go.Proofs.Ythmbpipeogdejaa.Clk
namespace Go.Proofs.Ythmbpipeogdejaa.Pure
open Go.RowKit Go.Proofs.Ythmbpipeogdejaa.PClk
set_option linter.unusedVariables false
theorem ClockTicks (a0 : Int) (l1 : List S39)  (a2 : Int) (h0 : (Lit.int .i64 a0).wf = true) (h1 : l1.length * 24 ≤ 140737488351232) (h2 : ∀ x ∈ l1, (Lit.int .i64 x.f0).wf = true ∧ (Lit.int .i64 x.f1).wf = true ∧ (Lit.int .i64 x.f2).wf = true) (h3 : (Lit.int .i64 a2).wf = true) : ∃ k, intervalmonlaw09_ClockTicks.f k a0 l1 a2 = some true := by
  have := bounds_i64 h3
  exact Clk.ClockTicks_pure a0 l1 a2 (by omega) (by omega)
end Go.Proofs.Ythmbpipeogdejaa.Pure

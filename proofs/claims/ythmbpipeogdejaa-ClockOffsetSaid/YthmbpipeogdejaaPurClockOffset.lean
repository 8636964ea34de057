/- The pure law of ClockOffset: the Lean function that is printed of it answers true. -/
import Derived.Test.YthmbpipeogdejaaClkC2
import Derived.Test.YthmbpipeogdejaaClkR
import Derived.Test.YthmbpipeogdejaaPClkx19
import Derived.OpenShut
namespace Go.Proofs.Ythmbpipeogdejaa.Clk
set_option linter.unusedVariables false
open Go.RowKit Go.Proofs.Ythmbpipeogdejaa.PClk Go.Proofs.YthmbpipeogdejaaW.PrintWords Go.Proofs.YthmbpipeogdejaaW.PrintLast Go.Proofs.YthmbpipeogdejaaW.PrintMore
theorem ClockOffset_pure (a : Int) (l : List S39) (t : Int) : ∃ k, intervalmonlaw09_ClockOffset.f k a l t = some true := by
  refine Ev.rounds (g := fun k => intervalmonlaw09_ClockOffset.f k a l t) ?_
  unfold intervalmonlaw09_ClockOffset.f
  rw [few_ev]
  simp only [Option.bind_some]
  refine Ev.bind (off_ev a t (l.take 16) (by simp; omega)) (Ev.bind (ref_off_ev a t (l.take 16) (by simp; omega)) ?_)
  simp only [if_true]
  exact Ev.bind lives_ev (Ev.now true)
end Go.Proofs.Ythmbpipeogdejaa.Clk
namespace Go.Proofs.Ythmbpipeogdejaa.Pure
open Go.RowKit Go.Proofs.Ythmbpipeogdejaa.PClk
set_option linter.unusedVariables false
theorem ClockOffset (a0 : Int) (l1 : List S39)  (a2 : Int) (h0 : (Lit.int .i64 a0).wf = true) (h1 : l1.length * 24 ≤ 140737488351232) (h2 : ∀ x ∈ l1, (Lit.int .i64 x.f0).wf = true ∧ (Lit.int .i64 x.f1).wf = true ∧ (Lit.int .i64 x.f2).wf = true) (h3 : (Lit.int .i64 a2).wf = true) : ∃ k, intervalmonlaw09_ClockOffset.f k a0 l1 a2 = some true := Clk.ClockOffset_pure a0 l1 a2
end Go.Proofs.Ythmbpipeogdejaa.Pure

/- Clock: the examples hold; few; Agrees of what is not valid. -/
import Derived.Test.YthmbpipeogdejaaClkB
import Derived.Test.YthmbpipeogdejaaPClkx9
namespace Go.Proofs.Ythmbpipeogdejaa.Clk
set_option linter.unusedVariables false
open Go.RowKit Go.Proofs.Ythmbpipeogdejaa.PClk Go.Proofs.YthmbpipeogdejaaW.PrintWords Go.Proofs.YthmbpipeogdejaaW.PrintLast Go.Proofs.YthmbpipeogdejaaW.PrintMore
theorem lives_ev : Ev (fun k => intervalmonlaw09_lives.f k) true := Ev.of (fun k => intervalmonlaw09_lives.mono k) (k := 40) (by decide +kernel)
theorem agrees_no (a : Int) (l : List S39) (f : Int) (r : List Int) (hl : l.length ≤ 1000000) (hv : vld a l = false) : Ev (fun k => clock_Agrees.f k a l f r) false := by
  unfold clock_Agrees.f
  refine Ev.bind (valid_ev a l hl) ?_
  rw [hv]
  refine ⟨1, fun k hk => ?_⟩
  obtain ⟨m, rfl⟩ : ∃ m, k = m + 1 := ⟨k - 1, by omega⟩
  simp [clock_Agrees.j0]
end Go.Proofs.Ythmbpipeogdejaa.Clk

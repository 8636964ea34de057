/- Clock: the first exchanges. -/
import Derived.Test.YthmbpipeogdejaaClkC
import Derived.Test.YthmbpipeogdejaaPClkx11
namespace Go.Proofs.Ythmbpipeogdejaa.Clk
set_option linter.unusedVariables false
open Go.RowKit Go.Proofs.Ythmbpipeogdejaa.PClk Go.Proofs.YthmbpipeogdejaaW.PrintWords Go.Proofs.YthmbpipeogdejaaW.PrintLast Go.Proofs.YthmbpipeogdejaaW.PrintMore
theorem take_ok (l : List S39) (n : Int) (h : 0 ≤ n) (hn : n ≤ 1000) : 0 ≤ mn (l.length : Int) n ∧ mn (l.length : Int) n ≤ (l.length : Int) ∧ (l.take ((mn (l.length : Int) n) : Int).toNat) = l.take n.toNat ∧ (l.take n.toNat).length ≤ 1000 := by
  rw [mnmin]
  refine ⟨by omega, by omega, ?_, by simp; omega⟩
  by_cases h : (l.length : Int) ≤ n
  · rw [List.take_of_length_le (by omega), List.take_of_length_le (by omega)]
  · rw [show (min (l.length : Int) n) = n from by omega]
theorem few_ev (l : List S39) : intervalmonlaw09_few.f l = some (l.take 16) := by
  obtain ⟨h1, h2, h3, h4⟩ := take_ok l 16 (by omega) (by omega)
  unfold intervalmonlaw09_few.f
  rw [if_pos h1, if_pos h2, Option.bind_some, h3, if_pos (by simp; omega)]
  rfl
end Go.Proofs.Ythmbpipeogdejaa.Clk

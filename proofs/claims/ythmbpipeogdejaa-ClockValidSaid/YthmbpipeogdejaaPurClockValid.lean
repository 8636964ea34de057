/- The pure law of ClockValid: the Lean function that is printed of it answers true. -/
import Derived.Test.YthmbpipeogdejaaClkC
import Derived.Test.YthmbpipeogdejaaClkR
import Derived.Test.YthmbpipeogdejaaPClkx10
import Derived.OpenShut
namespace Go.Proofs.Ythmbpipeogdejaa.Clk
set_option linter.unusedVariables false
open Go.RowKit Go.Proofs.Ythmbpipeogdejaa.PClk Go.Proofs.YthmbpipeogdejaaW.PrintWords Go.Proofs.YthmbpipeogdejaaW.PrintLast Go.Proofs.YthmbpipeogdejaaW.PrintMore
theorem take_ok (l : List S39) (n : Int) (h : 0 ≤ n) (hn : n ≤ 1000) : 0 ≤ mn (l.length : Int) n ∧ mn (l.length : Int) n ≤ (l.length : Int) ∧ (l.take ((mn (l.length : Int) n) : Int).toNat) = l.take n.toNat ∧ (l.take n.toNat).length ≤ 1000 := by
  rw [mnmin]
  refine ⟨by omega, by omega, ?_, by simp; omega⟩
  by_cases h : (l.length : Int) ≤ n
  · rw [List.take_of_length_le (by omega), List.take_of_length_le (by omega)]
  · rw [show (min (l.length : Int) n) = n from by omega]
theorem ClockValid_pure (a : Int) (l : List S39) : ∃ k, intervalmonlaw09_ClockValid.f k a l = some true := by
  refine Ev.rounds (g := fun k => intervalmonlaw09_ClockValid.f k a l) ?_
  obtain ⟨h1, h2, h3, h4⟩ := take_ok l 18 (by omega) (by omega)
  unfold intervalmonlaw09_ClockValid.f
  simp only [if_pos h1, if_pos h2, h3]
  generalize hx : l.take (18 : Int).toNat = x at *
  have h5 : x.length < 5864062014805 := by omega
  simp only [Option.bind_some, List.nil_append, List.length_nil, Nat.zero_add, if_pos h5]
  refine Ev.bind (valid_ev a x (by omega)) (Ev.bind (valid_ev' a x (by omega)) ?_)
  simp only [bne_self_eq_false, Bool.false_eq_true, if_false]
  refine Ev.bind (ticks_ev a 0 x (by omega)) (Ev.bind (off_ev a 0 x (by omega)) ?_)
  cases hv : vld a x with
  | true =>
    simp only [if_true]
    exact Ev.bind lives_ev (Ev.now true)
  | false =>
    have e1 : ticksV a 0 x = (0, 0, 1) := by unfold ticksV; rw [hv]; rfl
    have e2 : offV a 0 x = (0, 0, 1) := by unfold offV; rw [hv]; rfl
    rw [e1, e2]
    simp only [Bool.false_eq_true, if_false, if_true]
    refine Ev.bind (agrees_no a x 0 [] (by omega) hv) ?_
    simp only [Bool.false_eq_true, if_false]
    exact Ev.bind lives_ev (Ev.now true)
end Go.Proofs.Ythmbpipeogdejaa.Clk
namespace Go.Proofs.Ythmbpipeogdejaa.Pure
open Go.RowKit Go.Proofs.Ythmbpipeogdejaa.PClk
set_option linter.unusedVariables false
theorem ClockValid (a0 : Int) (l1 : List S39)  (h0 : (Lit.int .i64 a0).wf = true) (h1 : l1.length * 24 ≤ 140737488351232) (h2 : ∀ x ∈ l1, (Lit.int .i64 x.f0).wf = true ∧ (Lit.int .i64 x.f1).wf = true ∧ (Lit.int .i64 x.f2).wf = true) : ∃ k, intervalmonlaw09_ClockValid.f k a0 l1 = some true := Clk.ClockValid_pure a0 l1
end Go.Proofs.Ythmbpipeogdejaa.Pure

/- Clock: the pure laws of ClockValid, ClockTicks, ClockOffset. -/
import Derived.Test.YthmbpipeogdejaaClkB
import Derived.Test.YthmbpipeogdejaaPClkx9
import Derived.Test.YthmbpipeogdejaaPClkx11
namespace Go.Proofs.Ythmbpipeogdejaa.Clk
set_option linter.unusedVariables false
open Go.RowKit Go.Proofs.Ythmbpipeogdejaa.PClk Go.Proofs.YthmbpipeogdejaaW.PrintWords Go.Proofs.YthmbpipeogdejaaW.PrintLast Go.Proofs.YthmbpipeogdejaaW.PrintMore
theorem lives_ev : Ev (fun k => intervalmonlaw09_lives.f k) true := Ev.of (fun k => intervalmonlaw09_lives.mono k) (k := 40) (by decide +kernel)
theorem take_ok (l : List S39) (n : Int) (h : 0 ≤ n) (hn : n ≤ 1000) : 0 ≤ mn (l.length : Int) n ∧ mn (l.length : Int) n ≤ (l.length : Int) ∧ (l.take ((mn (l.length : Int) n) : Int).toNat) = l.take n.toNat ∧ (l.take n.toNat).length ≤ 1000 := by
  rw [mnmin]
  refine ⟨by omega, by omega, ?_, by simp; omega⟩
  by_cases h : (l.length : Int) ≤ n
  · rw [List.take_of_length_le (by omega), List.take_of_length_le (by omega)]
  · rw [show (min (l.length : Int) n) = n from by omega]
theorem few_ev (l : List S39) : intervalmonlaw09_few.f l = some (l.take 16) := by
  obtain ⟨h1, h2, h3, h4⟩ := take_ok l 16 (by omega) (by omega)
  unfold intervalmonlaw09_few.f
  rw [if_pos h1, if_pos h2, Option.bind_some, h3, if_pos (by simp; omega)]
  rfl
theorem ClockTicks_pure (a : Int) (l : List S39) (d : Int) (hd0 : -9223372036854775808 ≤ d) (hd1 : d ≤ 9223372036854775807) : ∃ k, intervalmonlaw09_ClockTicks.f k a l d = some true := by
  refine Ev.rounds (g := fun k => intervalmonlaw09_ClockTicks.f k a l d) ?_
  unfold intervalmonlaw09_ClockTicks.f
  rw [few_ev]
  simp only [Option.bind_some]
  refine Ev.bind (ticks_ev a d (l.take 16) (by simp; omega)) (Ev.bind (ref_ticks_ev a d (l.take 16) (by simp; omega) hd0 hd1) ?_)
  simp only [if_true]
  exact Ev.bind lives_ev (Ev.now true)
theorem ClockOffset_pure (a : Int) (l : List S39) (t : Int) : ∃ k, intervalmonlaw09_ClockOffset.f k a l t = some true := by
  refine Ev.rounds (g := fun k => intervalmonlaw09_ClockOffset.f k a l t) ?_
  unfold intervalmonlaw09_ClockOffset.f
  rw [few_ev]
  simp only [Option.bind_some]
  refine Ev.bind (off_ev a t (l.take 16) (by simp; omega)) (Ev.bind (ref_off_ev a t (l.take 16) (by simp; omega)) ?_)
  simp only [if_true]
  exact Ev.bind lives_ev (Ev.now true)
theorem agrees_no (a : Int) (l : List S39) (f : Int) (r : List Int) (hl : l.length ≤ 1000000) (hv : vld a l = false) : Ev (fun k => clock_Agrees.f k a l f r) false := by
  unfold clock_Agrees.f
  refine Ev.bind (valid_ev a l hl) ?_
  rw [hv]
  refine ⟨1, fun k hk => ?_⟩
  obtain ⟨m, rfl⟩ : ∃ m, k = m + 1 := ⟨k - 1, by omega⟩
  simp [clock_Agrees.j0]
theorem ClockValid_pure (a : Int) (l : List S39) : ∃ k, intervalmonlaw09_ClockValid.f k a l = some true := by
  refine Ev.rounds (g := fun k => intervalmonlaw09_ClockValid.f k a l) ?_
  obtain ⟨h1, h2, h3, h4⟩ := take_ok l 18 (by omega) (by omega)
  unfold intervalmonlaw09_ClockValid.f
  simp only [if_pos h1, if_pos h2, h3]
  generalize hx : l.take (18 : Int).toNat = x at *
  have h5 : x.length < 5864062014805 := by omega
  simp only [Option.bind_some, List.nil_append, List.length_nil, Nat.zero_add, if_pos h5]
  refine Ev.bind (valid_ev a x (by omega)) (Ev.bind (valid_ev' a x (by omega)) ?_)
  simp only [bne_self_eq_false, Bool.false_eq_true, if_false]
  refine Ev.bind (ticks_ev a 0 x (by omega)) (Ev.bind (off_ev a 0 x (by omega)) ?_)
  cases hv : vld a x with
  | true =>
    simp only [if_true]
    exact Ev.bind lives_ev (Ev.now true)
  | false =>
    have e1 : ticksV a 0 x = (0, 0, 1) := by unfold ticksV; rw [hv]; rfl
    have e2 : offV a 0 x = (0, 0, 1) := by unfold offV; rw [hv]; rfl
    rw [e1, e2]
    simp only [Bool.false_eq_true, if_false, if_true]
    refine Ev.bind (agrees_no a x 0 [] (by omega) hv) ?_
    simp only [Bool.false_eq_true, if_false]
    exact Ev.bind lives_ev (Ev.now true)
end Go.Proofs.Ythmbpipeogdejaa.Clk

/- The pure law of ClockAgrees: the Lean function that is printed of it answers true. -/
import Derived.Test.YthmbpipeogdejaaClkC2
import Derived.Test.YthmbpipeogdejaaClkG
import Derived.Test.YthmbpipeogdejaaPClkx20
import Derived.Test.YthmbpipeogdejaaPClkx22
import Derived.Test.YthmbpipeogdejaaPClkx23
import Derived.OpenShut
namespace Go.Proofs.Ythmbpipeogdejaa.Clk
set_option linter.unusedVariables false
open Go.RowKit Go.Proofs.Ythmbpipeogdejaa.PClk Go.Proofs.YthmbpipeogdejaaW.PrintWords Go.Proofs.YthmbpipeogdejaaW.PrintLast Go.Proofs.YthmbpipeogdejaaW.PrintMore
theorem same_loop (a : List Int) (ha : (a.length : Int) ≤ 1000000) : ∀ (d i : Nat), i + d = a.length → Ev (fun k => intervalmonref01_SameInts.l0 k a a (i : Int)) true := by
  intro d
  induction d with
  | zero =>
    intro i hi
    refine ⟨1, fun k hk => ?_⟩
    obtain ⟨m, rfl⟩ : ∃ m, k = m + 1 := ⟨k - 1, by omega⟩
    simp only [intervalmonref01_SameInts.l0]
    rw [if_neg (by omega)]
  | succ d ih =>
    intro i hi
    obtain ⟨K, hK⟩ := ih (i + 1) (by omega)
    refine ⟨K + 1, fun k hk => ?_⟩
    obtain ⟨m, rfl⟩ : ∃ m, k = m + 1 := ⟨k - 1, by omega⟩
    have hK' := hK m (by omega)
    dsimp only at hK'
    simp only [intervalmonref01_SameInts.l0]
    rw [if_pos (by omega), if_pos (by omega), if_pos (by omega), if_pos trivial, w64 (by omega) (by omega)]
    exact hK'
theorem same_self (a : List Int) (ha : (a.length : Int) ≤ 1000000) : Ev (fun k => intervalmonref01_SameInts.f k a a) true := by
  unfold intervalmonref01_SameInts.f
  simp only [if_true]
  exact same_loop a ha a.length 0 (by omega)
theorem ints_ev (l : List Int) : intervalmonref01_Ints.f l 60 = some (l.take 60) := by
  have h1 : 0 ≤ mn (l.length : Int) 60 ∧ mn (l.length : Int) 60 ≤ (l.length : Int) ∧ (l.take ((mn (l.length : Int) 60) : Int).toNat) = l.take 60 := by
    rw [mnmin]
    refine ⟨by omega, by omega, ?_⟩
    by_cases h : (l.length : Int) ≤ 60
    · rw [List.take_of_length_le (by omega), List.take_of_length_le (by omega)]
    · rw [show (min (l.length : Int) 60) = 60 from by omega]; rfl
  obtain ⟨h1, h2, h3⟩ := h1
  unfold intervalmonref01_Ints.f
  rw [if_pos h1, if_pos h2, h3, if_pos (by simp; omega)]
  rfl
theorem ClockAgrees_pure (a : Int) (l : List S39) (first : Int) (r : List Int) : ∃ k, intervalmonlaw09_ClockAgrees.f k a l first r = some true := by
  refine Ev.rounds (g := fun k => intervalmonlaw09_ClockAgrees.f k a l first r) ?_
  unfold intervalmonlaw09_ClockAgrees.f
  rw [few_ev, ints_ev]
  simp only [Option.bind_some]
  obtain ⟨b, hb, hp⟩ := agrees_ev a (l.take 16) first (r.take 60) (by simp; omega) (by simp; omega)
  obtain ⟨b', hb', hp'⟩ := ref_agrees_ev a (l.take 16) first (r.take 60) (by simp; omega) (by simp; omega)
  obtain rfl : b = b' := by
    cases b <;> cases b' <;> simp_all
  refine Ev.bind hb (Ev.bind hb' ?_)
  simp only [beq_self_eq_true, if_true]
  refine Ev.bind (same_self _ (by simp; omega)) ?_
  simp only [if_true]
  exact Ev.bind lives_ev (Ev.now true)
end Go.Proofs.Ythmbpipeogdejaa.Clk
namespace Go.Proofs.Ythmbpipeogdejaa.Pure
open Go.RowKit Go.Proofs.Ythmbpipeogdejaa.PClk
set_option linter.unusedVariables false
theorem ClockAgrees (a0 : Int) (l1 : List S39)  (a2 : Int) (l3 : List Int)  (h0 : (Lit.int .i64 a0).wf = true) (h1 : l1.length * 24 ≤ 140737488351232) (h2 : ∀ x ∈ l1, (Lit.int .i64 x.f0).wf = true ∧ (Lit.int .i64 x.f1).wf = true ∧ (Lit.int .i64 x.f2).wf = true) (h3 : (Lit.int .i64 a2).wf = true) (h4 : l3.length * 8 ≤ 140737488351232) (h5 : ∀ x ∈ l3, (Lit.int .i64 x).wf = true) : ∃ k, intervalmonlaw09_ClockAgrees.f k a0 l1 a2 l3 = some true := Clk.ClockAgrees_pure a0 l1 a2 l3
end Go.Proofs.Ythmbpipeogdejaa.Pure

/- The pure law of ClockDual: the Lean function that is printed of it answers true. -/
import Derived.Test.YthmbpipeogdejaaClkE
import Derived.Test.YthmbpipeogdejaaPClkx32
import Derived.OpenShut
namespace Go.Proofs.Ythmbpipeogdejaa.Clk
set_option linter.unusedVariables false
open Go.RowKit Go.Proofs.Ythmbpipeogdejaa.PClk Go.Proofs.YthmbpipeogdejaaW.PrintWords Go.Proofs.YthmbpipeogdejaaW.PrintLast Go.Proofs.YthmbpipeogdejaaW.PrintMore
theorem rd_of_nat (r : List Int) (i : Nat) : rd r (i : Int) = r.getD i 0 := by unfold rd; rw [Int.toNat_natCast]
theorem ClockDual_pure (l m : List Int) (tick by_ : Int) (hl : ∀ x ∈ l, inI x) (hm : ∀ x ∈ m, inI x) (hll : (l.length : Int) ≤ 140737488351232) (hml : (m.length : Int) ≤ 140737488351232) (ht : inI tick) (hby : inI by_) : ∃ k, intervalmonlaw09_ClockDual.f k l m tick by_ = some true := by
  refine Ev.rounds (g := fun k => intervalmonlaw09_ClockDual.f k l m tick by_) ?_
  unfold intervalmonlaw09_ClockDual.f
  obtain ⟨dr, r, e, hc, d0, d1, hG, e1, e2, e3⟩ := clockOf_ev l m hl hm hll hml
  have hv := exch_vld dr r e d0 d1 hG e1 e2 e3
  refine Ev.bind hc ?_
  have hb := arV_bd tick 60 (by omega)
  rw [around_ev tick 60 ht (by omega)]
  obtain ⟨b, hbb, b0, b1⟩ := bound_ev by_ 40 hby (by omega) (by omega)
  rw [hbb]
  generalize arV tick 60 = t at *
  simp only [Option.bind_some]
  obtain ⟨u, hu⟩ : ∃ u : Nat, mn t 39 = (u : Int) := ⟨(mn t 39).toNat, by rw [mnmin]; omega⟩
  have hu2 : mn t 39 = min t 39 := mnmin t 39
  have hg := hG.2.1 u (by omega)
  simp only [hu, rd_of_nat]
  have q1 : 0 ≤ (u : Int) := by omega
  have q2 : (u : Int) < (r.length : Int) := by rw [hG.1]; omega
  have q3 : wrap64 (r.getD u 0 + b) = r.getD u 0 + b := w64 (by omega) (by omega)
  have q4 : wrap64 (r.getD u 0 + b - t) = r.getD u 0 + b - t := w64 (by omega) (by omega)
  simp only [if_pos q1, if_pos q2, q3, q4]
  refine Ev.bind (ticks_ev dr (r.getD u 0 + b) e (by omega)) (Ev.bind (off_ev dr t e (by omega)) ?_)
  have ho := off_has dr r e d0 d1 hG hv e3 t (by omega) (by omega) u (by omega) (by omega)
  have hd := dual dr (r.getD u 0 + b) t e d0 d1 hv (by omega) (by omega) (by omega) (by omega)
  have fin : Ev (fun k => (intervalmonlaw09_lives.f k).bind fun t_ => some t_) true := Ev.bind lives_ev (Ev.now true)
  generalize ticksV dr (r.getD u 0 + b) e = T at *
  generalize offV dr t e = O at *
  simp only [if_pos ho.1]
  by_cases c1 : T.2.2 = 0
  · simp only [if_pos c1]
    by_cases c2 : T.1 ≤ t
    · simp only [if_pos c2]
      by_cases c3 : O.1 ≤ r.getD u 0 + b - t
      · have c4 : ((decide (t ≤ T.2.1)) == (decide (r.getD u 0 + b - t ≤ O.2.1))) = true := by
          have : (t ≤ T.2.1) ↔ (r.getD u 0 + b - t ≤ O.2.1) := ⟨fun h => (hd.1 ⟨c1, c2, h⟩).2.2, fun h => (hd.2 ⟨ho.1, c3, h⟩).2.2⟩
          rw [beq_iff_eq, decide_eq_decide]; exact this
        simp only [if_pos c3, if_pos c4]
        exact fin
      · have c4 : ((decide (t ≤ T.2.1)) == false) = true := by
          rw [beq_iff_eq, decide_eq_false_iff_not]
          exact fun h => c3 (hd.1 ⟨c1, c2, h⟩).2.1
        simp only [if_neg c3, if_pos c4]
        exact fin
    · simp only [if_neg c2]
      by_cases c3 : O.1 ≤ r.getD u 0 + b - t
      · have c4 : (false == (decide (r.getD u 0 + b - t ≤ O.2.1))) = true := by
          rw [beq_iff_eq, eq_comm, decide_eq_false_iff_not]
          exact fun h => c2 (hd.2 ⟨ho.1, c3, h⟩).2.1
        simp only [if_pos c3, if_pos c4]
        exact fin
      · simp only [if_neg c3]
        exact fin
  · simp only [if_neg c1]
    by_cases c3 : O.1 ≤ r.getD u 0 + b - t
    · have c4 : (false == (decide (r.getD u 0 + b - t ≤ O.2.1))) = true := by
        rw [beq_iff_eq, eq_comm, decide_eq_false_iff_not]
        exact fun h => c1 (hd.2 ⟨ho.1, c3, h⟩).1
      simp only [if_pos c3, if_pos c4]
      exact fin
    · simp only [if_neg c3]
      exact fin
end Go.Proofs.Ythmbpipeogdejaa.Clk
namespace Go.Proofs.Ythmbpipeogdejaa.Pure
open Go.RowKit Go.Proofs.Ythmbpipeogdejaa.PClk
set_option linter.unusedVariables false
theorem ClockDual (l0 : List Int)  (l1 : List Int)  (a2 : Int) (a3 : Int) (h0 : l0.length * 8 ≤ 140737488351232) (h1 : ∀ x ∈ l0, (Lit.int .i64 x).wf = true) (h2 : l1.length * 8 ≤ 140737488351232) (h3 : ∀ x ∈ l1, (Lit.int .i64 x).wf = true) (h4 : (Lit.int .i64 a2).wf = true) (h5 : (Lit.int .i64 a3).wf = true) : ∃ k, intervalmonlaw09_ClockDual.f k l0 l1 a2 a3 = some true :=
  Clk.ClockDual_pure l0 l1 a2 a3 (fun x hx => bounds_i64 (h1 x hx)) (fun x hx => bounds_i64 (h3 x hx)) (by omega) (by omega) (bounds_i64 h4) (bounds_i64 h5)
end Go.Proofs.Ythmbpipeogdejaa.Pure

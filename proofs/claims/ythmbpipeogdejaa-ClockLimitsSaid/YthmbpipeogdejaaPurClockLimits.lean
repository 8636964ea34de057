/- The pure law of ClockLimits: the Lean function that is printed of it answers true. -/
import Derived.Test.YthmbpipeogdejaaClkE
import Derived.Test.YthmbpipeogdejaaPClkx34
import Derived.OpenShut
namespace Go.Proofs.Ythmbpipeogdejaa.Clk
set_option linter.unusedVariables false
open Go.RowKit Go.Proofs.Ythmbpipeogdejaa.PClk Go.Proofs.YthmbpipeogdejaaW.PrintWords Go.Proofs.YthmbpipeogdejaaW.PrintLast Go.Proofs.YthmbpipeogdejaaW.PrintMore
theorem ticks_far (dr d : Int) (e : List S39) (d0 : 0 ≤ dr) (d1 : dr ≤ 512) (hv : vld dr e = true) (x : S39) (l : List S39) (he : e = x :: l) (hf : d - x.f2 < -2097152 ∨ d - x.f2 > 2097152) : ticksV dr d e = (0, 0, 13) := by
  unfold ticksV
  rw [if_pos hv]
  split
  · rfl
  · rw [he]
    exact far_clash dr d d0 d1 x (((vld_iff dr e).1 hv).2.2.2.2 x (by rw [he]; simp)) hf l 0 1048576 (by omega) (by omega)
theorem ClockLimits_pure (l m : List Int) (far tick : Int) (hl : ∀ x ∈ l, inI x) (hm : ∀ x ∈ m, inI x) (hll : (l.length : Int) ≤ 140737488351232) (hml : (m.length : Int) ≤ 140737488351232) (hfar : inI far) (ht : inI tick) : ∃ k, intervalmonlaw09_ClockLimits.f k l m far tick = some true := by
  refine Ev.rounds (g := fun k => intervalmonlaw09_ClockLimits.f k l m far tick) ?_
  unfold intervalmonlaw09_ClockLimits.f
  obtain ⟨dr, r, e, hc, d0, d1, hG, e1, e2, e3⟩ := clockOf_ev l m hl hm hll hml
  have hv := exch_vld dr r e d0 d1 hG e1 e2 e3
  refine Ev.bind hc ?_
  obtain ⟨x, e', rfl⟩ : ∃ x e', e = x :: e' := by
    match e, e1 with
    | x :: e', _ => exact ⟨x, e', rfl⟩
  have hx := (okx_iff x).1 (((vld_iff dr _).1 hv).2.2.2.2 x (by simp))
  have hb := arV_bd far 4611686018427387904 (by omega)
  have hb2 := arV_bd tick 1000 (by omega)
  rw [around_ev far _ hfar (by omega), around_ev tick _ ht (by omega)]
  generalize arV far 4611686018427387904 = t at *
  generalize arV tick 1000 = s at *
  have hrd : rd_T39 (x :: e') 0 = x := rfl
  simp only [Option.bind_some, hrd]
  have q0 : 0 < ((x :: e').length : Int) := by simp
  have q1 : wrap64 (2097153 + t) = 2097153 + t := w64 (by omega) (by omega)
  have q2 : wrap64 (x.f2 + (2097153 + t)) = x.f2 + (2097153 + t) := w64 (by omega) (by omega)
  have q3 : wrap64 (x.f2 - (2097153 + t)) = x.f2 - (2097153 + t) := w64 (by omega) (by omega)
  have q4 : wrap64 (-1 - s) = -1 - s := w64 (by omega) (by omega)
  have q5 : wrap64 (1048577 + s) = 1048577 + s := w64 (by omega) (by omega)
  simp only [if_pos q0, q1, q2, q3, q4, q5]
  refine Ev.bind (ticks_ev dr _ (x :: e') (by omega)) (Ev.bind (ticks_ev dr _ (x :: e') (by omega)) (Ev.bind (off_ev dr _ (x :: e') (by omega)) (Ev.bind (off_ev dr _ (x :: e') (by omega)) ?_)))
  rw [ticks_far dr _ (x :: e') d0 d1 hv x e' rfl (by omega), ticks_far dr _ (x :: e') d0 d1 hv x e' rfl (by omega)]
  have o1 : offV dr (-1 - s) (x :: e') = (0, 0, 1) := by unfold offV; rw [if_neg (by omega)]
  have o2 : offV dr (1048577 + s) (x :: e') = (0, 0, 1) := by unfold offV; rw [if_neg (by omega)]
  rw [o1, o2]
  simp only [if_true]
  exact Ev.bind lives_ev (Ev.now true)
end Go.Proofs.Ythmbpipeogdejaa.Clk
namespace Go.Proofs.Ythmbpipeogdejaa.Pure
open Go.RowKit Go.Proofs.Ythmbpipeogdejaa.PClk
set_option linter.unusedVariables false
theorem ClockLimits (l0 : List Int)  (l1 : List Int)  (a2 : Int) (a3 : Int) (h0 : l0.length * 8 ≤ 140737488351232) (h1 : ∀ x ∈ l0, (Lit.int .i64 x).wf = true) (h2 : l1.length * 8 ≤ 140737488351232) (h3 : ∀ x ∈ l1, (Lit.int .i64 x).wf = true) (h4 : (Lit.int .i64 a2).wf = true) (h5 : (Lit.int .i64 a3).wf = true) : ∃ k, intervalmonlaw09_ClockLimits.f k l0 l1 a2 a3 = some true :=
  Clk.ClockLimits_pure l0 l1 a2 a3 (fun x hx => bounds_i64 (h1 x hx)) (fun x hx => bounds_i64 (h3 x hx)) (by omega) (by omega) (bounds_i64 h4) (bounds_i64 h5)
end Go.Proofs.Ythmbpipeogdejaa.Pure

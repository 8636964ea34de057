/- The pure law of ClockContains: the Lean function that is printed of it answers true. -/
import Derived.Test.YthmbpipeogdejaaClkE
import Derived.Test.YthmbpipeogdejaaClkF
import Derived.Test.YthmbpipeogdejaaPClkx31
import Derived.OpenShut
namespace Go.Proofs.Ythmbpipeogdejaa.Clk
set_option linter.unusedVariables false
open Go.RowKit Go.Proofs.Ythmbpipeogdejaa.PClk Go.Proofs.YthmbpipeogdejaaW.PrintWords Go.Proofs.YthmbpipeogdejaaW.PrintLast Go.Proofs.YthmbpipeogdejaaW.PrintMore
theorem rd_of_nat (r : List Int) (i : Nat) : rd r (i : Int) = r.getD i 0 := by unfold rd; rw [Int.toNat_natCast]
theorem contains_loop (dr : Int) (r : List Int) (e : List S39) (d0 : 0 ≤ dr) (d1 : dr ≤ 512) (hG : Good dr r) (hv : vld dr e = true) (he : ∀ x ∈ e, Exch r x) (hl : e.length ≤ 1000) : ∀ (d t : Nat), t + d = 40 →
    Ev (fun k => intervalmonlaw09_ClockContains.l0 k dr r e (t : Int)) true := by
  intro d
  induction d with
  | zero =>
    intro t ht
    obtain ⟨K, hK⟩ := lives_ev
    refine ⟨K + 1, fun k hk => ?_⟩
    obtain ⟨m, rfl⟩ : ∃ m, k = m + 1 := ⟨k - 1, by omega⟩
    have hK' := hK m (by omega)
    dsimp only at hK'
    simp only [intervalmonlaw09_ClockContains.l0]
    rw [if_neg (by rw [hG.1]; omega), hK']
    rfl
  | succ d ih =>
    intro t ht
    obtain ⟨K, hK⟩ := ih (t + 1) (by omega)
    obtain ⟨K1, hK1⟩ := ticks_ev dr (r.getD t 0) e (by omega)
    obtain ⟨K2, hK2⟩ := off_ev dr (t : Int) e (by omega)
    have hb := hG.2.1 t (by omega)
    have ho := off_has dr r e d0 d1 hG hv he (t : Int) (by omega) (by omega) t (by omega) (.inl rfl)
    have ht2 := (dual dr (r.getD t 0) (t : Int) e d0 d1 hv (by omega) (by omega) (by omega) (by omega)).2 ho
    refine ⟨K + K1 + K2 + 1, fun k hk => ?_⟩
    obtain ⟨m, rfl⟩ : ∃ m, k = m + 1 := ⟨k - 1, by omega⟩
    have hK' := hK m (by omega)
    have r1 := hK1 m (by omega)
    have r2 := hK2 m (by omega)
    dsimp only at hK' r1 r2
    simp only [intervalmonlaw09_ClockContains.l0]
    rw [if_pos (by rw [hG.1]; omega), if_pos (by omega), rd_of_nat, r1, r2, Option.bind_some, Option.bind_some, if_pos ht2.1, if_pos ho.1, if_neg (by omega), if_neg (by omega), w64 (x := r.getD t 0 - t) (by omega) (by omega), if_neg (by omega), if_neg (by omega), w64 (by omega) (by omega)]
    exact hK'
theorem good_agrees (dr : Int) (r : List Int) (e : List S39) (d0 : 0 ≤ dr) (d1 : dr ≤ 512) (hG : Good dr r) (hv : vld dr e = true) (he : ∀ x ∈ e, Exch r x) : agreesP dr e 0 r := by
  refine ⟨hv, by omega, by omega, by rw [hG.1]; omega, fun i hi => ?_, fun x hx => ?_⟩
  · rw [hG.1] at hi
    have := hG.2.1 i hi
    exact ⟨by unfold inRng; omega, fun k hk => hG.2.2 i k hi (by omega)⟩
  · obtain ⟨t, h0, h1, h2, h3, h4, h5⟩ := he x hx
    exact .inr ⟨t, by omega, by rw [hG.1]; omega, h5.symm⟩
theorem ClockContains_pure (l m : List Int) (hl : ∀ x ∈ l, inI x) (hm : ∀ x ∈ m, inI x) (hll : (l.length : Int) ≤ 140737488351232) (hml : (m.length : Int) ≤ 140737488351232) : ∃ k, intervalmonlaw09_ClockContains.f k l m = some true := by
  refine Ev.rounds (g := fun k => intervalmonlaw09_ClockContains.f k l m) ?_
  unfold intervalmonlaw09_ClockContains.f
  obtain ⟨dr, r, e, hc, d0, d1, hG, e1, e2, e3⟩ := clockOf_ev l m hl hm hll hml
  have hv := exch_vld dr r e d0 d1 hG e1 e2 e3
  refine Ev.bind hc ?_
  obtain ⟨b, hb, hp⟩ := agrees_ev dr e 0 r (by omega) (by have := hG.1; omega)
  obtain rfl : b = true := hp.2 (good_agrees dr r e d0 d1 hG hv e3)
  refine Ev.bind hb ?_
  simp only [if_true]
  exact contains_loop dr r e d0 d1 hG hv e3 (by omega) 40 0 (by omega)
end Go.Proofs.Ythmbpipeogdejaa.Clk
namespace Go.Proofs.Ythmbpipeogdejaa.Pure
open Go.RowKit Go.Proofs.Ythmbpipeogdejaa.PClk
set_option linter.unusedVariables false
theorem ClockContains (l0 : List Int)  (l1 : List Int)  (h0 : l0.length * 8 ≤ 140737488351232) (h1 : ∀ x ∈ l0, (Lit.int .i64 x).wf = true) (h2 : l1.length * 8 ≤ 140737488351232) (h3 : ∀ x ∈ l1, (Lit.int .i64 x).wf = true) : ∃ k, intervalmonlaw09_ClockContains.f k l0 l1 = some true :=
  Clk.ClockContains_pure l0 l1 (fun x hx => bounds_i64 (h1 x hx)) (fun x hx => bounds_i64 (h3 x hx)) (by omega) (by omega)
end Go.Proofs.Ythmbpipeogdejaa.Pure

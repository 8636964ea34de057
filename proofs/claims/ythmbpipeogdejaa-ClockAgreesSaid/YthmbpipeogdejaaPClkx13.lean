-- WRITTEN BY wip/xprint.py (a program of this work, over the kit's print): not typed by hand
import Derived.Test.YthmbpipeogdejaaPClkx0
import Derived.Test.YthmbpipeogdejaaPClkx12
namespace Go.Proofs.Ythmbpipeogdejaa.PClk
open Go.RowKit Go.Proofs.YthmbpipeogdejaaW.PrintWords Go.Proofs.YthmbpipeogdejaaW.PrintLast Go.Proofs.YthmbpipeogdejaaW.PrintMore
attribute [local go_sem] max2_int min2_int max_two min_two max_three min_three max_four min_four   -- for this text's walks alone
set_option linter.unusedVariables false
set_option linter.unusedSimpArgs false

/-! ### intervalmonref09_Slack: function 38 -/
def intervalmonref09_Slack.f (a0 : Int) (a1 : Int) : Option (Int) := (intervalmonref09_Abs.f a1).bind fun t172 => (if (Int.tmod (wrap64 (t172 * a0)) 1024) = 0 then (some (wrap64 (Int.tdiv (wrap64 (t172 * a0)) 1024))) else (some (wrap64 ((wrap64 (Int.tdiv (wrap64 (t172 * a0)) 1024)) + 1))))
set_option maxHeartbeats 8000000 in
set_option maxRecDepth 100000 in
theorem intervalmonref09_Slack.calls (a0 : Int) (a1 : Int) (r : Int) (w : World) (h : intervalmonref09_Slack.f a0 a1 = some r) :
    Calls Try.prog 38 #[.int .i64 a0, .int .i64 a1] w fun e w' => e = .returned (.int .i64 r) ∧ Drawn0 w w' := by
  have H : ((intervalmonref09_Abs.f a1).bind fun t172 => (if (Int.tmod (wrap64 (t172 * a0)) 1024) = 0 then (some (wrap64 (Int.tdiv (wrap64 (t172 * a0)) 1024))) else (some (wrap64 ((wrap64 (Int.tdiv (wrap64 (t172 * a0)) 1024)) + 1))))) = some r := h
  clear h
  replace H := Option.bind_eq_some_iff.mp H
  obtain ⟨t172, A30, H⟩ := H
  replace H : (if (Int.tmod (wrap64 (t172 * a0)) 1024) = 0 then (some (wrap64 (Int.tdiv (wrap64 (t172 * a0)) 1024))) else (some (wrap64 ((wrap64 (Int.tdiv (wrap64 (t172 * a0)) 1024)) + 1)))) = some r := H
  have A3 := Aside0.mk A30
  clear A30
  by_cases c4 : (Int.tmod (wrap64 (t172 * a0)) 1024) = 0
  · rw [if_pos c4] at H
    have c4b0 : ((Int.tmod (wrap64 (t172 * a0)) 1024) == 0) = true := beq_iff_eq.mpr c4
    have c4b1 : ((Int.tmod (wrap64 (t172 * a0)) 1024) != 0) = false := bne_eq_false_iff_eq.mpr c4
    clear c4
    obtain rfl := Option.some.inj H
    go_enter Try.func38, Try.ntmps38
    go_wp2_with (first | ((with_reducible refine gate_callee (f := 36) rfl ?_); refine goesL_ (some 7) rfl rfl Try.func36 (by kernel_rfl) rfl #[.int .i64 a1] rfl (by (try simp only [List.map_toArray, List.map_cons, List.map_nil]); first | done | rfl | (simp only [List.length_drop, List.length_take]; rfl)) ?_; (with_reducible refine (intervalmonref09_Abs.calls a1 t172 _ A3.out).mono ?_); rintro e w' ⟨rfl, ⟨nd, rfl⟩⟩; refine ⟨_, rfl, ?_⟩))
    go_ret
    exact ⟨by first | rfl | (simp; done) | (simp [*]; done), by repeat (first | exact Drawn0.refl _ | apply Drawn0.step)⟩
  · rw [if_neg c4] at H
    have c4b0 : ((Int.tmod (wrap64 (t172 * a0)) 1024) == 0) = false := beq_eq_false_iff_ne.mpr c4
    have c4b1 : ((Int.tmod (wrap64 (t172 * a0)) 1024) != 0) = true := bne_iff_ne.mpr c4
    obtain rfl := Option.some.inj H
    go_enter Try.func38, Try.ntmps38
    go_wp2_with (first | ((with_reducible refine gate_callee (f := 36) rfl ?_); refine goesL_ (some 7) rfl rfl Try.func36 (by kernel_rfl) rfl #[.int .i64 a1] rfl (by (try simp only [List.map_toArray, List.map_cons, List.map_nil]); first | done | rfl | (simp only [List.length_drop, List.length_take]; rfl)) ?_; (with_reducible refine (intervalmonref09_Abs.calls a1 t172 _ A3.out).mono ?_); rintro e w' ⟨rfl, ⟨nd, rfl⟩⟩; refine ⟨_, rfl, ?_⟩))
    go_ret
    exact ⟨by first | rfl | (simp; done) | (simp [*]; done), by repeat (first | exact Drawn0.refl _ | apply Drawn0.step)⟩

end Go.Proofs.Ythmbpipeogdejaa.PClk

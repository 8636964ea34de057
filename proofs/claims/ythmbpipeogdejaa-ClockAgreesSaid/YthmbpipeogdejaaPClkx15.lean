-- WRITTEN BY wip/xprint.py (a program of this work, over the kit's print): not typed by hand
import Derived.Test.YthmbpipeogdejaaPClkx0
import Derived.Test.YthmbpipeogdejaaPClkx12
import Derived.Test.YthmbpipeogdejaaPClkx14
namespace Go.Proofs.Ythmbpipeogdejaa.PClk
open Go.RowKit Go.Proofs.YthmbpipeogdejaaW.PrintWords Go.Proofs.YthmbpipeogdejaaW.PrintLast Go.Proofs.YthmbpipeogdejaaW.PrintMore
attribute [local go_sem] max2_int min2_int max_two min_two max_three min_three max_four min_four   -- for this text's walks alone
set_option linter.unusedVariables false
set_option linter.unusedSimpArgs false

/-! ### intervalmonref09_reach: function 37 -/
def intervalmonref09_reach.l0 : Nat → Int → Int → Int → Int → Option (Int)
  | 0, _, _, _, _ => none
  | k + 1, x0, x1, x2, x7 => (intervalmonref09_can.f x0 x1 (wrap64 (x7 + x2))).bind fun t175 => (if t175 = true then ((intervalmonref09_Abs.f (wrap64 (x7 + x2))).bind fun t176 => (if t176 ≤ 4194304 then (intervalmonref09_reach.l0 k x0 x1 x2 (wrap64 (x7 + x2))) else (some x7))) else (some x7))
def intervalmonref09_reach.f (k : Nat) (a0 : Int) (a1 : Int) (a2 : Int) : Option (Int) := intervalmonref09_reach.l0 k a0 a1 a2 a1
theorem intervalmonref09_reach.mono_l : ∀ k, (∀ y0 y1 y2 y3, LeO (intervalmonref09_reach.l0 k y0 y1 y2 y3) (intervalmonref09_reach.l0 (k + 1) y0 y1 y2 y3))
  | 0 => fun _ _ _ _ r h => by simp [intervalmonref09_reach.l0] at h
  | k + 1 => by
    have ih0 := intervalmonref09_reach.mono_l k
    · intro y0 y1 y2 y3
      unfold intervalmonref09_reach.l0
      repeat' first
      | (with_reducible exact ih0 _ _ _ _)
      | (with_reducible exact LeO.refl _)
      | (with_reducible exact LeO.none _)
      | (with_reducible refine LeO.ite ?_ ?_)
      | (with_reducible refine LeO.bind ?_ (fun _ => ?_))
      | exact ih0 _ _ _ _
      | exact LeO.none _
      | refine LeO.ite ?_ ?_
      | refine LeO.bind ?_ (fun _ => ?_)
theorem intervalmonref09_reach.mono : ∀ a0 a1 a2 k, LeO (intervalmonref09_reach.f k a0 a1 a2) (intervalmonref09_reach.f (k + 1) a0 a1 a2) := by
  intro a0 a1 a2 k
  have ih0 := intervalmonref09_reach.mono_l k
  unfold intervalmonref09_reach.f
  repeat' first
      | (with_reducible exact ih0 _ _ _ _)
      | (with_reducible exact LeO.refl _)
      | (with_reducible exact LeO.none _)
      | (with_reducible refine LeO.ite ?_ ?_)
      | (with_reducible refine LeO.bind ?_ (fun _ => ?_))
      | exact ih0 _ _ _ _
      | exact LeO.none _
      | refine LeO.ite ?_ ?_
      | refine LeO.bind ?_ (fun _ => ?_)
set_option maxHeartbeats 8000000 in
set_option maxRecDepth 100000 in
theorem intervalmonref09_reach.calls (k : Nat) (a0 : Int) (a1 : Int) (a2 : Int) (r : Int) (w : World) (h : intervalmonref09_reach.f k a0 a1 a2 = some r) :
    Calls Try.prog 37 #[.int .i64 a0, .int .i64 a1, .int .i64 a2] w fun e w' => e = .returned (.int .i64 r) ∧ Drawn0 w w' := by
  have H : (intervalmonref09_reach.l0 k a0 a1 a2 a1) = some r := h
  clear h
  have H' := Aside0.mk H
  clear H
  go_enter Try.func37, Try.ntmps37
  go_wp2
  go_loopg [7] k (fun kq v7 w' => ∃ (x7_1 : Int), v7 = .int .i64 x7_1 ∧ Aside0 (intervalmonref09_reach.l0 kq a0 a1 a2 x7_1 = some r) ∧ Aside0 (kq ≤ k) ∧ Drawn0 w w')
  case atStart => exact ⟨(a1), (by first | rfl | (simp; done) | (simp [*]; done)), H', ⟨Nat.le_refl _⟩, by repeat (first | exact Drawn0.refl _ | apply Drawn0.step)⟩
  case round =>
    clear H'
    try clear p2
    try clear c3
    obtain ⟨x7_1, rfl, HA, HK1, ⟨m1, rfl⟩⟩ := hrel
    cases gk with
    | zero => exact absurd HA.out (by simp [intervalmonref09_reach.l0])
    | succ k1 =>
      have H := HA.out
      clear HA
      simp only [intervalmonref09_reach.l0] at H
      replace H := Option.bind_eq_some_iff.mp H
      obtain ⟨t175, A40, H⟩ := H
      replace H : (if t175 = true then ((intervalmonref09_Abs.f (wrap64 (x7_1 + a2))).bind fun t176 => (if t176 ≤ 4194304 then (intervalmonref09_reach.l0 k1 a0 a1 a2 (wrap64 (x7_1 + a2))) else (some x7_1))) else (some x7_1)) = some r := H
      have A4 := Aside0.mk A40
      clear A40
      by_cases c5 : t175 = true
      · subst c5
        have H1 : ((intervalmonref09_Abs.f (wrap64 (x7_1 + a2))).bind fun t176 => (if t176 ≤ 4194304 then (intervalmonref09_reach.l0 k1 a0 a1 a2 (wrap64 (x7_1 + a2))) else (some x7_1))) = some r := by rw [if_pos rfl] at H; exact H
        clear H
        have H := H1
        clear H1
        replace H := Option.bind_eq_some_iff.mp H
        obtain ⟨t176, A60, H⟩ := H
        replace H : (if t176 ≤ 4194304 then (intervalmonref09_reach.l0 k1 a0 a1 a2 (wrap64 (x7_1 + a2))) else (some x7_1)) = some r := H
        have A6 := Aside0.mk A60
        clear A60
        by_cases c7 : t176 ≤ 4194304
        · rw [if_pos c7] at H
          have c7b0 : decide (t176 ≤ 4194304) = true := decide_eq_true c7
          clear c7
          have H' := Aside0.mk H
          clear H
          go_wp2_with (first | ((with_reducible refine gate_callee (f := 39) rfl ?_); refine goesL_ (some 14) rfl rfl Try.func39 (by kernel_rfl) rfl #[.int .i64 a0, .int .i64 a1, .int .i64 (wrap64 (x7_1 + a2))] rfl (by (try simp only [List.map_toArray, List.map_cons, List.map_nil]); first | done | rfl | (simp only [List.length_drop, List.length_take]; rfl)) ?_; (with_reducible refine (intervalmonref09_can.calls a0 a1 (wrap64 (x7_1 + a2)) true _ A4.out).mono ?_); rintro e w' ⟨rfl, ⟨nd, rfl⟩⟩; refine ⟨_, rfl, ?_⟩) | (go_at_call 36; (with_reducible refine (intervalmonref09_Abs.calls (wrap64 (x7_1 + a2)) t176 _ A6.out).mono ?_); rintro e w' ⟨rfl, ⟨nd, rfl⟩⟩))
          go_roundg k1
          case measure => have := HK1.out; omega
          case rel => exact ⟨(wrap64 (x7_1 + a2)), (by first | rfl | (simp; done) | (simp [*]; done)), H', ⟨by have := HK1.out; omega⟩, by repeat (first | exact Drawn0.refl _ | apply Drawn0.step)⟩
        · rw [if_neg c7] at H
          have c7b0 : decide (t176 ≤ 4194304) = false := decide_eq_false c7
          clear c7
          obtain rfl := Option.some.inj H
          go_wp2_with (first | ((with_reducible refine gate_callee (f := 39) rfl ?_); refine goesL_ (some 14) rfl rfl Try.func39 (by kernel_rfl) rfl #[.int .i64 a0, .int .i64 a1, .int .i64 (wrap64 (x7_1 + a2))] rfl (by (try simp only [List.map_toArray, List.map_cons, List.map_nil]); first | done | rfl | (simp only [List.length_drop, List.length_take]; rfl)) ?_; (with_reducible refine (intervalmonref09_can.calls a0 a1 (wrap64 (x7_1 + a2)) true _ A4.out).mono ?_); rintro e w' ⟨rfl, ⟨nd, rfl⟩⟩; refine ⟨_, rfl, ?_⟩) | (go_at_call 36; (with_reducible refine (intervalmonref09_Abs.calls (wrap64 (x7_1 + a2)) t176 _ A6.out).mono ?_); rintro e w' ⟨rfl, ⟨nd, rfl⟩⟩))
          go_ret
          exact ⟨by first | rfl | (simp; done) | (simp [*]; done), by repeat (first | exact Drawn0.refl _ | apply Drawn0.step)⟩
      · replace c5 := Bool.eq_false_iff.mpr c5
        subst c5
        have H1 : (some x7_1) = some r := by rw [if_neg (show ¬ (false = true) by decide)] at H; exact H
        clear H
        have H := H1
        clear H1
        obtain rfl := Option.some.inj H
        go_wp2_with (first | ((with_reducible refine gate_callee (f := 39) rfl ?_); refine goesL_ (some 14) rfl rfl Try.func39 (by kernel_rfl) rfl #[.int .i64 a0, .int .i64 a1, .int .i64 (wrap64 (x7_1 + a2))] rfl (by (try simp only [List.map_toArray, List.map_cons, List.map_nil]); first | done | rfl | (simp only [List.length_drop, List.length_take]; rfl)) ?_; (with_reducible refine (intervalmonref09_can.calls a0 a1 (wrap64 (x7_1 + a2)) false _ A4.out).mono ?_); rintro e w' ⟨rfl, ⟨nd, rfl⟩⟩; refine ⟨_, rfl, ?_⟩))
        go_ret
        exact ⟨by first | rfl | (simp; done) | (simp [*]; done), by repeat (first | exact Drawn0.refl _ | apply Drawn0.step)⟩

end Go.Proofs.Ythmbpipeogdejaa.PClk

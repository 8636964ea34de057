import Derived.Test.YtbhcnbfgaiejaaaBudV
import Derived.Test.YtbhcnbfgaiejaaaPBudx16
namespace Go.Proofs.Ytbhcnbfgaiejaaa.PBud
open Go.RowKit Go.Proofs.YtbhcnbfgaiejaaaW.PrintWords Go.Proofs.YtbhcnbfgaiejaaaW.PrintLast Go.Proofs.YtbhcnbfgaiejaaaW.PrintMore
set_option linter.unusedVariables false
set_option linter.unusedSimpArgs false
def intervalmonlaw17_BudgetNew.f (a0 : Int) : Option Bool := some true
set_option maxHeartbeats 4000000 in
theorem BudgetNew.calls (n : Int) (w : World) : Calls Try.prog 4 #[.int .i64 n] w fun e w' => e = .returned (.bool true) ∧ Below w.heap.size w w' := by
  by_cases hn : 0 ≤ n ∧ n ≤ 2147483648
  · obtain ⟨h0, h1⟩ := hn
    have ha : intervalmonref17_Allowed.f n = some true := by unfold intervalmonref17_Allowed.f; rw [if_pos (by omega), decide_eq_true h1]
    have HA := Aside0.mk ha
    clear ha
    go_enter Try.func4, Try.ntmps4
    go_wp2_with fail
    refine (New.calls_ok w _ n (Below.refl _ _) h0 h1).mono ?_
    rintro e w1 ⟨rfl, hL, hb⟩
    have HL1 := Aside0.mk hL
    have HB1 := Aside0.mk hb
    clear hL hb
    go_wp2_with fail
    refine (intervalmonref17_Allowed.calls n _ _ HA.out).mono ?_
    rintro e w2 ⟨rfl, n2, rfl⟩
    go_wp2_with fail
    refine (Left.calls _ _ _ _ _ _ _ (HL1.out.below (pw_below_drewN (Below.refl _ _) _)) (by omega) (by omega) (by omega)).mono ?_
    rintro e w5 ⟨rfl, n5, rfl⟩
    go_wp2_with fail
    refine (Spent.calls _ _ _ _ _ _ _ (HL1.out.below (pw_below_drewN (Below.refl _ _) _))).mono ?_
    rintro e w6 ⟨rfl, rfl⟩
    go_wp2_with fail
    refine (Entries.calls _ _ _ _ _ _ _ (HL1.out.below (pw_below_drewN (Below.refl _ _) _)) (by simp)).mono ?_
    rintro e w7 ⟨v, rfl, hR, hb7⟩
    obtain ⟨A, c, rfl⟩ := Kd.R_slice hR
    have HF := Aside0.mk (below_step HB1.out (below_step (pw_below_drewN (Below.refl _ _) _) hb7))
    clear hR hb7 HL1 HB1
    go_wp2_with fail
    refine (lives.calls _).mono ?_
    rintro e w8 ⟨rfl, hb8⟩
    have HG := Aside0.mk (below_step HF.out hb8)
    clear hb8 HF
    go_wp2
    go_ret
    exact ⟨rfl, HG.out⟩
  · have hn' : n < 0 ∨ 2147483648 < n := by omega
    have ha : intervalmonref17_Allowed.f n = some false := by
      unfold intervalmonref17_Allowed.f
      rcases hn' with h | h
      · rw [if_neg (by omega)]
      · rw [if_pos (by omega), decide_eq_false (by omega)]
    have HA := Aside0.mk ha
    have HN := Aside0.mk hn'
    clear ha hn hn'
    go_enter Try.func4, Try.ntmps4
    go_wp2_with fail
    refine (New.calls_no w n HN.out).mono ?_
    rintro e w1 ⟨rfl, rfl⟩
    go_wp2_with fail
    refine (intervalmonref17_Allowed.calls n _ _ HA.out).mono ?_
    rintro e w2 ⟨rfl, n2, rfl⟩
    go_wp2_with fail
    refine (lives.calls _).mono ?_
    rintro e w8 ⟨rfl, hb8⟩
    have HG := Aside0.mk (below_step (pw_below_drewN (Below.refl _ _) n2) hb8)
    clear hb8
    go_wp2
    go_ret
    exact ⟨rfl, HG.out⟩
theorem intervalmonlaw17_BudgetNew.calls (a0 : Int) (r : Bool) (w : World) (h : intervalmonlaw17_BudgetNew.f a0 = some r) :
    Calls Try.prog 4 #[.int .i64 a0] w fun e w' => e = .returned (.bool r) ∧ Below w.heap.size w w' := by
  obtain rfl : true = r := by injection h
  exact BudgetNew.calls a0 w
end Go.Proofs.Ytbhcnbfgaiejaaa.PBud

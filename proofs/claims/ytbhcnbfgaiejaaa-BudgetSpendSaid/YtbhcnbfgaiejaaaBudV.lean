import Derived.Test.YtbhcnbfgaiejaaaBudL
namespace Go.Proofs.Ytbhcnbfgaiejaaa.PBud
open Go.RowKit Go.Proofs.YtbhcnbfgaiejaaaW.PrintWords Go.Proofs.YtbhcnbfgaiejaaaW.PrintLast Go.Proofs.YtbhcnbfgaiejaaaW.PrintMore
set_option linter.unusedVariables false
set_option linter.unusedSimpArgs false
theorem Spend.calls_as (w0 w : World) (F : Nat → Prop) (g : Nat) (B S : Int) (es : List S48) (step : ByteArray) (cost : Int) (r S' : Int) (es' : List S48) (hsp : sp B S es step cost = (r, S', es')) (hB : Below w0.heap.size w0 w) (hL : Led w0.heap.size F w g B S es) (h0 : 0 ≤ S) (h1 : S ≤ B) (h2 : B ≤ 2147483648) (hl : es.length ≤ 1000) :
    Calls Try.prog 13 #[.pointer (some ⟨g, 0, none⟩), .string step, .int .i64 cost] w fun e w' => e = .returned (.int .i64 r) ∧ Aside0 (Led w0.heap.size (fun k => F k ∨ w.heap.size ≤ k) w' g B S' es') ∧ Aside0 (Below w0.heap.size w0 w') ∧ Aside0 (Kept w w' F) := by
  refine (Spend.calls w0 w F g B S es step cost hB hL h0 h1 h2 hl).mono ?_
  rintro e w' ⟨rfl, h3, h4, h5⟩
  rw [hsp] at h3 ⊢
  exact ⟨rfl, ⟨h3⟩, ⟨h4⟩, ⟨h5⟩⟩
set_option maxHeartbeats 4000000 in
theorem lives.calls (w : World) : Calls Try.prog 15 #[] w fun e w' => e = .returned (.bool true) ∧ Below w.heap.size w w' := by
  go_enter Try.func15, Try.ntmps15
  go_wp2_with fail
  refine (New.calls_ok w _ 10 (Below.refl _ _) (by omega) (by omega)).mono ?_
  rintro e w1 ⟨rfl, hL, hb⟩
  have HL1 := Aside0.mk hL
  have HB1 := Aside0.mk hb
  clear hL hb
  go_wp2_with fail
  refine (Spend.calls_as w _ _ _ _ _ _ _ _ 0 7 [⟨⟨#[114, 111, 108, 108, 101, 100]⟩, 7⟩] rfl HB1.out HL1.out (by omega) (by omega) (by omega) (by simp)).mono ?_
  rintro e w2 ⟨rfl, HL2, HB2, _⟩
  clear HL1 HB1
  go_wp2_with fail
  refine (Spend.calls_as w _ _ _ _ _ _ _ _ 12 7 [⟨⟨#[114, 111, 108, 108, 101, 100]⟩, 7⟩] rfl HB2.out HL2.out (by omega) (by omega) (by omega) (by simp)).mono ?_
  rintro e w3 ⟨rfl, HL3, HB3, _⟩
  clear HL2 HB2
  go_wp2_with fail
  refine (Spend.calls_as w _ _ _ _ _ _ _ _ 0 10 [⟨⟨#[114, 111, 108, 108, 101, 100]⟩, 7⟩, ⟨⟨#[116, 104, 105, 110, 110, 101, 100]⟩, 3⟩] rfl HB3.out HL3.out (by omega) (by omega) (by omega) (by simp)).mono ?_
  rintro e w4 ⟨rfl, HL4, HB4, _⟩
  clear HL3 HB3
  go_wp2_with fail
  refine (Left.calls _ _ _ _ _ _ _ HL4.out (by omega) (by omega) (by omega)).mono ?_
  rintro e w5 ⟨rfl, n5, rfl⟩
  go_wp2_with fail
  refine (Entries.calls _ _ _ _ _ _ _ (HL4.out.below (pw_below_drewN (Below.refl _ _) _)) (by simp)).mono ?_
  rintro e w6 ⟨v, rfl, hR, hb6⟩
  obtain ⟨A, c, rfl⟩ := Kd.R_slice hR
  have HF := Aside0.mk (below_step HB4.out (below_step (pw_below_drewN (Below.refl _ _) n5) hb6))
  clear hR hb6 HL4 HB4
  go_wp2
  go_ret
  exact ⟨rfl, HF.out⟩
end Go.Proofs.Ytbhcnbfgaiejaaa.PBud

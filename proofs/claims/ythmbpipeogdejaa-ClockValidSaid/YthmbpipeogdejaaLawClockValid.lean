/- The row of the law ClockValid: for whatever input it returns true, and its arguments read as before. -/
import Derived.Test.YthmbpipeogdejaaRows
import Derived.Test.YthmbpipeogdejaaPClkx10
import Derived.Test.YthmbpipeogdejaaPurClockValid
import Derived.Test.YthmbpipeogdejaaOpenS
import Derived.WalkKit
import Derived.ProofKit
import Derived.OpenShut
import Derived.ShutString
import Derived.ChangeOld
import Derived.Below
import Derived.SizedLaws
namespace Go.Proofs.Ythmbpipeogdejaa.clockValid
open Go.ChangeShapes Go.WideShapes Go.ChangeAt Go.RowKit
open Go.ChangeMaps (open_string shut_string)
open Go.Proofs.Ythmbpipeogdejaa.OpenS Go.Proofs.Ythmbpipeogdejaa.PClk Go.Proofs.YthmbpipeogdejaaW.PrintWords
set_option linter.unusedVariables false
theorem own : ownKnob Try.prog.godebug = none := by kernel_rfl
theorem laidOut : laidOutB Try.prog = true := by kernel_rfl
theorem dec39 {H : Type} {enc : TypeId × Value → H} {W : World} {base : Nat} {spare : Nat → Bool} {held : Bool} (fuel : Nat) (cs : List Value) (x : DataW H × List MemPlace) (h : DataW.trod enc Try.prog W base spare held fuel 39 cs = some x) :
    ∃ a0 a1 a2 : Int, cs = [.int .i64 a0, .int .i64 a1, .int .i64 a2] ∧ (Lit.int .i64 a0).wf = true ∧ (Lit.int .i64 a1).wf = true ∧ (Lit.int .i64 a2).wf = true := by
  obtain ⟨xs, n, _, rfl, hl, hlen, hf⟩ := DataW.trod_struct Try.underlying39 h
  have hC : Try.prog.cellsOf 39 = 3 := by kernel_rfl
  rw [hC] at hl
  obtain ⟨c0, c1, c2, rfl⟩ : ∃ c0 c1 c2, cs = [c0, c1, c2] := by
    match cs, hl with
    | [c0, c1, c2], _ => exact ⟨_, _, _, rfl⟩
  obtain ⟨y0, y1, y2, rfl⟩ : ∃ y0 y1 y2, xs = [y0, y1, y2] := by
    match xs, hlen with
    | [y0, y1, y2], _ => exact ⟨_, _, _, rfl⟩
  have hc3 : Try.prog.cellsOf 3 = 1 := by kernel_rfl
  have z0 : DataW.trod enc Try.prog W base spare held n 3 [c0] = some y0 := by
    have z := hf 0 _ rfl
    simpa [hc3] using z
  obtain ⟨a0, e0, _, w0⟩ := DataW.trod_int Try.underlying3 z0
  have z1 : DataW.trod enc Try.prog W base spare held n 3 [c1] = some y1 := by
    have z := hf 1 _ rfl
    simpa [hc3] using z
  obtain ⟨a1, e1, _, w1⟩ := DataW.trod_int Try.underlying3 z1
  have z2 : DataW.trod enc Try.prog W base spare held n 3 [c2] = some y2 := by
    have z := hf 2 _ rfl
    simpa [hc3] using z
  obtain ⟨a2, e2, _, w2⟩ := DataW.trod_int Try.underlying3 z2
  simp only [List.cons.injEq, and_true] at e0 e1 e2
  obtain rfl := e0
  obtain rfl := e1
  obtain rfl := e2
  exact ⟨_, _, _, rfl, w0, w1, w2⟩
set_option maxRecDepth 100000 in
theorem lifted (os : Os) (started : os.Started) (H : Type) (enc : TypeId × Value → H) :
    ReturnsInHanded {} Try.checked os 3 .any (Rows.clockValidSpec.pre6 enc Try.prog Try.f3 Rows.clockValidRow.domain false) (Rows.clockValidSpec.post enc Try.prog Try.f3 false true false false) := by
  refine returnsInHanded_of_change_sized (C := Try.checked) own started (by kernel_rfl) Try.func3
    (ChangeSpec.witness6 (enc := enc) (C := Try.checked) false ⟨#[], #[.int .i64 0, .slice none 0 0], []⟩ 8 (by kernel_rfl) (by kernel_rfl) (by kernel_rfl) (by kernel_rfl)) ?_
  intro W base args ds gs before hval0 hW hcnd hsz0 _
  have hsz : (DataW.weightsEach Try.prog (Try.f3.params.toList ++ Rows.clockValidSpec.plain.varTypes Try.prog) (ds ++ gs)).all (· ≤ reachBytes) = true := hsz0
  have hval : ∀ (j : Nat) t v, Try.f3.params[j]? = some t → args[j]? = some v → Value.okWide Try.prog W .any base t v := hval0
  have hW' := hW
  obtain ⟨p, q, hA0, hV, rfl, hfz, hnd⟩ := hW
  have hA : DataW.TrodAll enc Try.prog W 0 (fun _ => true) true Try.f3.params.toList args.toList ds p := hA0
  rw [Try.params3] at hA hval hsz
  obtain ⟨v0, vs0, d0, ds0, p0, q0, hargs, rfl, rfl, h0, r0⟩ := trodAll_cons hA
  obtain ⟨v1, vs1, d1, ds1, p1, q1, rfl, rfl, rfl, h1, r1⟩ := trodAll_cons r0
  obtain ⟨rfl, rfl, rfl⟩ := trodAll_nil r1
  obtain rfl : args = #[v0, v1] := by cases args; simp_all
  obtain ⟨rfl, rfl⟩ := trodVars_none hV
  obtain ⟨a0, rfl, rfl, rfl, w0⟩ := open_int Try.underlying3 (hval 0 3 v0 rfl rfl) h0
  obtain ⟨a1, len1, cap1, rfl⟩ := okWide_slice Try.underlying22 (hval 1 22 v1 rfl rfl)
  have k1 := h1
  have lt1 : ∀ x ∈ p1, x.block < W.heap.size := by obtain ⟨m, hm⟩ := k1; exact DataW.trod_lt m _ _ _ hm
  have y1 : len1 * 24 ≤ 140737488351232 := sized_rows hsz (j := 1) (t := 22) rfl rfl Try.underlying22 (by kernel_rfl) h1
  haveI : Inhabited S39 := ⟨z39⟩
  obtain ⟨l1, hl1, hr1, hc1, w1⟩ := open_rows k39 (fun x => (Lit.int .i64 x.f0).wf = true ∧ (Lit.int .i64 x.f1).wf = true ∧ (Lit.int .i64 x.f2).wf = true) Try.underlying22 (by kernel_rfl) (fun _ _ _ hz => by obtain ⟨b0, b1, b2, e, g0, g1, g2⟩ := dec39 _ _ _ hz; subst e; exact ⟨(⟨b0, b1, b2⟩ : S39), k39_mk W _, g0, g1, g2⟩) h1
  subst hl1
  clear hA0 hval0 hsz0 hsz
  obtain ⟨k, hk⟩ := Pure.ClockValid a0 l1 w0 y1 w1
  refine (intervalmonlaw09_ClockValid.calls k a0 _ _ l1 true W hr1 hc1 hk).mono fun e W' ⟨he, bel⟩ => ?_
  subst he
  exact ⟨_, rfl, _, _, _, [], _, [], hW', trodAll_mk1 (shut_bool Try.underlying4 _), (trodAll_cons_mk (shut_int Try.underlying3 w0) (trodAll_cons_mk (Below.trod laidOut (by kernel_rfl) (of_decide_eq_true (by kernel_rfl)) k1 bel lt1) trodAll_mk0)), rfl, bel.frame _, fun h => by cases h⟩
theorem over : Rows.clockValidRow.holds Try.pinned (OpenSpec.ofChange Rows.clockValidSpec) :=
  OpenClaim.holds_of_wide 3 Try.f3 rfl rfl rfl rfl rfl rfl rfl ⟨rfl, rfl, rfl, rfl, rfl⟩ rfl rfl rfl rfl rfl (by kernel_rfl) Try.func3 (by kernel_rfl)
    (of_decide_eq_true (by kernel_rfl)) (by unfold Func.isWrapper; first | (rw [if_pos (by decide +kernel)]; kernel_rfl) | (rw [if_neg (by decide +kernel)]; exact ⟨rfl, rfl⟩))
    (fun os started H enc _ => lifted os started H enc)
theorem proved : Rows.ClockValidSaid := over
#print axioms proved
end Go.Proofs.Ythmbpipeogdejaa.clockValid
namespace Go.Proofs.Ythmbpipeogdejaa
/-- The row, under a short name, for the claim. -/
theorem clockValid_holds : Rows.ClockValidSaid := clockValid.proved
end Go.Proofs.Ythmbpipeogdejaa

/- Clock: what Ticks and Offset compute. -/
import Derived.Test.YthmbpipeogdejaaClkA
import Derived.Test.YthmbpipeogdejaaPClkx5
import Derived.Test.YthmbpipeogdejaaPClkx6
namespace Go.Proofs.Ythmbpipeogdejaa.Clk
set_option linter.unusedVariables false
open Go.RowKit Go.Proofs.Ythmbpipeogdejaa.PClk Go.Proofs.YthmbpipeogdejaaW.PrintWords Go.Proofs.YthmbpipeogdejaaW.PrintLast Go.Proofs.YthmbpipeogdejaaW.PrintMore
theorem okx_iff (x : S39) : okx x = true ↔ 0 ≤ x.f0 ∧ x.f0 ≤ x.f1 ∧ x.f1 ≤ 1048576 ∧ -1073741824 ≤ x.f2 ∧ x.f2 ≤ 1073741824 := by simp [okx]
theorem vld_iff (a : Int) (l : List S39) : vld a l = true ↔ 0 ≤ a ∧ a ≤ 512 ∧ 1 ≤ l.length ∧ l.length ≤ 16 ∧ ∀ x ∈ l, okx x = true := by
  simp [vld, List.all_eq_true]
  constructor
  · rintro ⟨⟨a, b, c, d⟩, e⟩; exact ⟨a, b, c, d, e⟩
  · rintro ⟨a, b, c, d, e⟩; exact ⟨⟨a, b, c, d⟩, e⟩
theorem mxmax (a b : Int) : mx a b = max a b := by unfold mx; omega
theorem mnmin (a b : Int) : mn a b = min a b := by unfold mn; omega
/-- The ticks: from the largest lower bound to the smallest upper one. -/
def tfold (a d : Int) : List S39 → Int → Int → Int × Int × Int
  | [], lo, hi => if lo > hi then (0, 0, 13) else (lo, hi, 0)
  | x :: xs, lo, hi => tfold a d xs (max lo (x.f0 + (distV a (d - x.f2)).1)) (min hi (x.f1 + (distV a (d - x.f2)).2))
def ticksV (a d : Int) (l : List S39) : Int × Int × Int :=
  if vld a l = true then (if d < -1099511627776 ∨ d > 1099511627776 then (0, 0, 13) else tfold a d l 0 1048576) else (0, 0, 1)
theorem ticks_loop (a d n : Int) (h0 : 0 ≤ a) (h1 : a ≤ 512) (hd0 : -1099511627776 ≤ d) (hd1 : d ≤ 1099511627776) : ∀ (suf pre : List S39) (lo hi : Int), (pre.length : Int) + suf.length ≤ 4611686018427387904 → n = (pre.length : Int) + suf.length →
    (∀ x ∈ suf, okx x = true) → Ev (fun k => clock_Ticks.l0 k a d lo hi (pre ++ suf) n (pre.length : Int)) (tfold a d suf lo hi) := by
  intro suf
  induction suf with
  | nil =>
    intro pre lo hi hb hn _
    refine ⟨1, fun k hk => ?_⟩
    obtain ⟨m, rfl⟩ : ∃ m, k = m + 1 := ⟨k - 1, by omega⟩
    simp only [clock_Ticks.l0, tfold]
    rw [if_neg (by simp at hn; omega)]
    split <;> rfl
  | cons x suf ih =>
    intro pre lo hi hb hn hok
    simp only [List.length_cons] at hb hn
    have hx := (okx_iff x).1 (hok x (by simp))
    have bd := dist_bd a (d - x.f2) h0 h1 (by omega) (by omega)
    obtain ⟨K, hK⟩ := ih (pre ++ [x]) (max lo (x.f0 + (distV a (d - x.f2)).1)) (min hi (x.f1 + (distV a (d - x.f2)).2)) (by rw [snocl]; omega) (by rw [snocl]; omega) (fun y hy => hok y (by simp [hy]))
    refine ⟨K + 1, fun k hk => ?_⟩
    obtain ⟨m, rfl⟩ : ∃ m, k = m + 1 := ⟨k - 1, by omega⟩
    have hK' := hK m (by omega)
    (try dsimp only at hK')
    rw [← snoc, snocl] at hK'
    simp only [clock_Ticks.l0, tfold]
    rw [rd_at, lenc, w64 (x := d - x.f2) (by omega) (by omega), if_pos (by omega), if_pos (by omega), if_pos (by omega)]
    have e : clock_distances.f a (d - x.f2) = some (distV a (d - x.f2)) := by unfold clock_distances.f; rw [if_pos (by omega)]
    rw [e, Option.bind_some, mxmax, mnmin, w64 (by omega) (by omega), w64 (by omega) (by omega), w64 (by omega) (by omega)]
    exact hK'
theorem ticks_ev (a d : Int) (l : List S39) (hl : l.length ≤ 1000000) : Ev (fun k => clock_Ticks.f k a l d) (ticksV a d l) := by
  unfold clock_Ticks.f ticksV
  refine Ev.bind (valid_ev a l hl) ?_
  cases hv : vld a l with
  | false => exact ⟨0, fun k _ => by simp⟩
  | true =>
    have hv' := (vld_iff a l).1 hv
    by_cases hr : d < -1099511627776 ∨ d > 1099511627776
    · refine ⟨1, fun k hk => ?_⟩
      obtain ⟨m, rfl⟩ : ∃ m, k = m + 1 := ⟨k - 1, by omega⟩
      simp only [if_true, if_pos hr, clock_Ticks.j0]
      by_cases h : d < -1099511627776
      · rw [if_pos h]
      · rw [if_neg h, if_pos (by simp; omega)]
    · obtain ⟨K, hK⟩ := ticks_loop a d (l.length : Int) hv'.1 hv'.2.1 (by omega) (by omega) l [] 0 1048576 (by simp; omega) (by simp) hv'.2.2.2.2
      refine ⟨K + 1, fun k hk => ?_⟩
      obtain ⟨m, rfl⟩ : ∃ m, k = m + 1 := ⟨k - 1, by omega⟩
      have hK' := hK m (by omega)
      (try dsimp only at hK')
      simp only [List.nil_append, List.length_nil] at hK'
      simp only [if_true, if_neg hr, clock_Ticks.j0]
      rw [if_neg (by omega), if_neg (by simp; omega)]
      exact hK'
/-! Offset -/
def ofold (a t : Int) : List S39 → Int → Int → Int × Int × Int
  | [], lo, hi => if lo > hi then (0, 0, 13) else (lo, hi, 0)
  | x :: xs, lo, hi => ofold a t xs (max lo (x.f2 - x.f1 - slk a (t - x.f1))) (min hi (x.f2 - x.f0 + slk a (t - x.f0)))
def offV (a t : Int) (l : List S39) : Int × Int × Int :=
  if vld a l = true ∧ 0 ≤ t ∧ t ≤ 1048576 then ofold a t l (-1099511627776) 1099511627776 else (0, 0, 1)
theorem slk_small (a n : Int) (h0 : 0 ≤ a) (h1 : a ≤ 512) (h2 : -1048576 ≤ n) (h3 : n ≤ 1048576) : 0 ≤ slk a n ∧ slk a n ≤ 1048576 := by
  have := slk_le a n h0 h1
  split at this <;> omega
theorem off_loop (a t n : Int) (h0 : 0 ≤ a) (h1 : a ≤ 512) (hd0 : 0 ≤ t) (hd1 : t ≤ 1048576) : ∀ (suf pre : List S39) (lo hi : Int), (pre.length : Int) + suf.length ≤ 4611686018427387904 → n = (pre.length : Int) + suf.length →
    (∀ x ∈ suf, okx x = true) → Ev (fun k => clock_Offset.l0 k a t lo hi (pre ++ suf) n (pre.length : Int)) (ofold a t suf lo hi) := by
  intro suf
  induction suf with
  | nil =>
    intro pre lo hi hb hn _
    refine ⟨1, fun k hk => ?_⟩
    obtain ⟨m, rfl⟩ : ∃ m, k = m + 1 := ⟨k - 1, by omega⟩
    simp only [clock_Offset.l0, ofold]
    rw [if_neg (by simp at hn; omega)]
    split <;> rfl
  | cons x suf ih =>
    intro pre lo hi hb hn hok
    simp only [List.length_cons] at hb hn
    have hx := (okx_iff x).1 (hok x (by simp))
    have s1 := slk_small a (t - x.f1) h0 h1 (by omega) (by omega)
    have s0 := slk_small a (t - x.f0) h0 h1 (by omega) (by omega)
    obtain ⟨K, hK⟩ := ih (pre ++ [x]) (max lo (x.f2 - x.f1 - slk a (t - x.f1))) (min hi (x.f2 - x.f0 + slk a (t - x.f0))) (by rw [snocl]; omega) (by rw [snocl]; omega) (fun y hy => hok y (by simp [hy]))
    refine ⟨K + 1, fun k hk => ?_⟩
    obtain ⟨m, rfl⟩ : ∃ m, k = m + 1 := ⟨k - 1, by omega⟩
    have hK' := hK m (by omega)
    (try dsimp only at hK')
    rw [← snoc, snocl] at hK'
    simp only [clock_Offset.l0, ofold]
    rw [rd_at, lenc, w64 (x := t - x.f1) (by omega) (by omega), w64 (x := t - x.f0) (by omega) (by omega), if_pos (by omega), if_pos (by omega), if_pos (by omega)]
    rw [slk_val a (t - x.f1) h0 h1 (by omega) (by omega), slk_val a (t - x.f0) h0 h1 (by omega) (by omega), Option.bind_some, Option.bind_some, mxmax, mnmin,
      w64 (x := x.f2 - x.f1) (by omega) (by omega), w64 (x := x.f2 - x.f0) (by omega) (by omega), w64 (by omega) (by omega), w64 (by omega) (by omega), w64 (by omega) (by omega)]
    exact hK'
theorem off_ev (a t : Int) (l : List S39) (hl : l.length ≤ 1000000) : Ev (fun k => clock_Offset.f k a l t) (offV a t l) := by
  unfold clock_Offset.f offV
  refine Ev.bind (valid_ev a l hl) ?_
  cases hv : vld a l with
  | false =>
    refine ⟨1, fun k hk => ?_⟩
    obtain ⟨m, rfl⟩ : ∃ m, k = m + 1 := ⟨k - 1, by omega⟩
    simp [clock_Offset.j0]
  | true =>
    have hv' := (vld_iff a l).1 hv
    by_cases hr : 0 ≤ t ∧ t ≤ 1048576
    · obtain ⟨K, hK⟩ := off_loop a t (l.length : Int) hv'.1 hv'.2.1 (by omega) (by omega) l [] (-1099511627776) 1099511627776 (by simp; omega) (by simp) hv'.2.2.2.2
      refine ⟨K + 1, fun k hk => ?_⟩
      obtain ⟨m, rfl⟩ : ∃ m, k = m + 1 := ⟨k - 1, by omega⟩
      have hK' := hK m (by omega)
      (try dsimp only at hK')
      simp only [List.nil_append, List.length_nil] at hK'
      simp only [if_true, clock_Offset.j0]
      rw [if_neg (by omega), if_neg (by simp; omega), if_pos ⟨trivial, hr⟩]
      exact hK'
    · refine ⟨1, fun k hk => ?_⟩
      obtain ⟨m, rfl⟩ : ∃ m, k = m + 1 := ⟨k - 1, by omega⟩
      simp only [if_true, clock_Offset.j0]
      have e : (if True ∧ 0 ≤ t ∧ t ≤ 1048576 then ofold a t l (-1099511627776) 1099511627776 else ((0, 0, 1) : Int × Int × Int)) = (0, 0, 1) := if_neg (fun h => hr h.2)
      rw [e]
      by_cases h : t < 0
      · rw [if_pos h]
      · rw [if_neg h, if_pos (by simp; omega)]
/-- Once the bounds cross, they stay crossed. -/
theorem tfold_clash (a d : Int) : ∀ (l : List S39) (lo hi : Int), lo > hi → tfold a d l lo hi = (0, 0, 13) := by
  intro l
  induction l with
  | nil => intro lo hi h; simp [tfold, h]
  | cons x l ih => intro lo hi h; exact ih _ _ (by omega)
theorem far_clash (a d : Int) (h0 : 0 ≤ a) (h1 : a ≤ 512) (x : S39) (hx : okx x = true) (hf : d - x.f2 < -2097152 ∨ d - x.f2 > 2097152) (l : List S39) (lo hi : Int) (hlo : 0 ≤ lo) (hhi : hi ≤ 1048576) : tfold a d (x :: l) lo hi = (0, 0, 13) := by
  have hx := (okx_iff x).1 hx
  refine tfold_clash a d l _ _ ?_
  have e1 := dist_lo a (d - x.f2) 1048576 h0 h1
  have e2 := dist_hi a (d - x.f2) (-1048576) h0 h1
  have s1 := slk_half a 1048576 h0 h1
  have s2 := slk_half a (-1048576) h0 h1
  rw [if_neg (by omega)] at s1
  rw [if_pos (by omega)] at s2
  rcases hf with hf | hf
  · have : ¬ (-1048576 ≤ (distV a (d - x.f2)).2) := by rw [e2]; omega
    omega
  · have : ¬ ((distV a (d - x.f2)).1 ≤ 1048576) := by rw [e1]; omega
    omega
end Go.Proofs.Ythmbpipeogdejaa.Clk

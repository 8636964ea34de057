/- Clock: what the reference's Valid, Ticks, Offset compute: the same. -/
import Derived.Test.YthmbpipeogdejaaClkB
import Derived.Test.YthmbpipeogdejaaPClkx2
import Derived.Test.YthmbpipeogdejaaPClkx16
import Derived.Test.YthmbpipeogdejaaPClkx18
namespace Go.Proofs.Ythmbpipeogdejaa.Clk
set_option linter.unusedVariables false
open Go.RowKit Go.Proofs.Ythmbpipeogdejaa.PClk Go.Proofs.YthmbpipeogdejaaW.PrintWords Go.Proofs.YthmbpipeogdejaaW.PrintLast Go.Proofs.YthmbpipeogdejaaW.PrintMore
theorem valid_loop' : ∀ (suf pre : List S39) (b : Bool), (pre.length : Int) + suf.length ≤ 4611686018427387904 → Ev (fun k => intervalmonref09_Valid.l0 k (pre ++ suf) b (pre.length : Int)) (b && suf.all okx) := by
  intro suf
  induction suf with
  | nil =>
    intro pre b hb
    refine ⟨1, fun k hk => ?_⟩
    obtain ⟨m, rfl⟩ : ∃ m, k = m + 1 := ⟨k - 1, by omega⟩
    simp only [intervalmonref09_Valid.l0]
    rw [if_neg (by simp)]
    simp
  | cons x suf ih =>
    intro pre b hb
    simp only [List.length_cons] at hb
    obtain ⟨K, hK⟩ := ih (pre ++ [x]) (okx x) (by rw [snocl]; omega)
    refine ⟨K + 1, fun k hk => ?_⟩
    obtain ⟨m, rfl⟩ : ∃ m, k = m + 1 := ⟨k - 1, by omega⟩
    have hK' := hK m (by omega)
    (try dsimp only at hK')
    rw [← snoc, snocl] at hK'
    simp only [intervalmonref09_Valid.l0, List.all_cons]
    rw [rd_at, lenc, w64 (by omega) (by omega), if_pos (by omega)]
    cases b with
    | false => rw [if_neg (by simp)]; rfl
    | true =>
      rw [if_pos rfl, if_pos (by omega), Bool.true_and, ← hK']
      unfold okx
      by_cases h1 : x.f0 ≥ 0
      · rw [if_pos h1]
        by_cases h2 : x.f0 ≤ x.f1
        · rw [if_pos h2]
          by_cases h3 : x.f1 ≤ 1048576
          · rw [if_pos h3]
            by_cases h4 : x.f2 ≥ -1073741824
            · rw [if_pos h4]
              congr 1
              rw [decide_eq_decide]; omega
            · rw [if_neg h4, decide_eq_false (by omega)]
          · rw [if_neg h3, decide_eq_false (by omega)]
        · rw [if_neg h2, decide_eq_false (by omega)]
      · rw [if_neg h1, decide_eq_false (by omega)]
theorem valid_ev' (a : Int) (l : List S39) (hl : l.length ≤ 1000000) : Ev (fun k => intervalmonref09_Valid.f k a l) (vld a l) := by
  have h := fun b => valid_loop' l [] b (by simp; omega)
  obtain ⟨K1, h1⟩ := h (decide (0 ≤ a ∧ a ≤ 512 ∧ 1 ≤ l.length ∧ l.length ≤ 16))
  simp only [List.nil_append, List.length_nil] at h1
  refine ⟨K1 + 1, fun k hk => ?_⟩
  obtain ⟨m, rfl⟩ : ∃ m, k = m + 1 := ⟨k - 1, by omega⟩
  have h1' := h1 m (by omega)
  (try dsimp only at h1')
  have e : ((0 : Nat) : Int) = 0 := rfl
  rw [e] at h1'
  simp only [intervalmonref09_Valid.f, intervalmonref09_Valid.j0]
  unfold vld
  rw [← h1']
  by_cases c1 : a ≥ 0
  · rw [if_pos c1]
    by_cases c2 : a ≤ 512
    · rw [if_pos c2]
      by_cases c3 : (l.length : Int) ≥ 1
      · rw [if_pos c3]
        congr 1
        rw [decide_eq_decide]; omega
      · rw [if_neg c3, decide_eq_false (by omega)]
    · rw [if_neg c2, decide_eq_false (by omega)]
  · rw [if_neg c1, decide_eq_false (by omega)]
/-! the reference's -/
theorem refabs (n : Int) (h : -9223372036854775807 ≤ n) (h' : n ≤ 9223372036854775807) : intervalmonref09_Abs.f n = some (if n < 0 then -n else n) := by
  unfold intervalmonref09_Abs.f
  split
  · rw [w64 (by omega) (by omega)]
  · rfl
theorem refslk (a n : Int) (h0 : 0 ≤ a) (h1 : a ≤ 512) (h2 : -17592186044416 ≤ n) (h3 : n ≤ 17592186044416) : intervalmonref09_Slack.f a n = some (slk a n) := by
  unfold intervalmonref09_Slack.f
  rw [refabs n (by omega) (by omega), Option.bind_some]
  have hs : slk a n = ((if n < 0 then -n else n) * a + 1023) / 1024 := by
    unfold slk
    by_cases h : n < 0
    · rw [if_pos h, if_pos (by omega)]
    · rw [if_neg h]
      by_cases h' : n < -n
      · omega
      · rw [if_neg h']
  rw [hs]
  generalize hm : (if n < 0 then -n else n) = m
  have hm0 : 0 ≤ m := by split at hm <;> omega
  have hm1 : m ≤ 17592186044416 := by split at hm <;> omega
  have q0 : 0 ≤ m * a := Int.mul_nonneg hm0 h0
  have q1 : m * a ≤ 17592186044416 * 512 := Int.mul_le_mul hm1 h1 h0 (by omega)
  generalize m * a = q at *
  rw [w64 (x := q) (by omega) (by omega), Int.tmod_eq_emod_of_nonneg q0, Int.tdiv_eq_ediv_of_nonneg q0, w64 (x := q / 1024) (by omega) (by omega), w64 (by omega) (by omega)]
  split
  · congr 1; omega
  · congr 1; omega
theorem refcan (a d n : Int) (h0 : 0 ≤ a) (h1 : a ≤ 512) (h2 : -8796093022208 ≤ n) (h3 : n ≤ 8796093022208) (h4 : -8796093022208 ≤ d) (h5 : d ≤ 8796093022208) :
    intervalmonref09_can.f a d n = some (decide ((distV a d).1 ≤ n ∧ n ≤ (distV a d).2)) := by
  unfold intervalmonref09_can.f
  rw [w64 (by omega) (by omega), refabs _ (by omega) (by omega), refslk a n h0 h1 (by omega) (by omega), Option.bind_some, Option.bind_some]
  congr 1
  rw [decide_eq_decide, dist_lo a d n h0 h1, dist_hi a d n h0 h1]
  split <;> omega
theorem reach_dn (a d : Int) (h0 : 0 ≤ a) (h1 : a ≤ 512) (h4 : -2097152 ≤ d) (h5 : d ≤ 2097152) : ∀ (j : Nat) (n : Int), n - max (distV a d).1 (-4194304) = j → n ≤ d →
    Ev (fun k => intervalmonref09_reach.l0 k a d (-1) n) (max (distV a d).1 (-4194304)) := by
  have bd := dist_bd a d h0 h1 (by omega) (by omega)
  intro j
  induction j with
  | zero =>
    intro n hj hn
    refine ⟨1, fun k hk => ?_⟩
    obtain ⟨m, rfl⟩ : ∃ m, k = m + 1 := ⟨k - 1, by omega⟩
    simp only [intervalmonref09_reach.l0]
    rw [w64 (by omega) (by omega), refcan a d (n + -1) h0 h1 (by omega) (by omega) (by omega) (by omega), Option.bind_some, refabs _ (by omega) (by omega), Option.bind_some]
    have hmx : max (distV a d).1 (-4194304) = n := by omega
    rw [hmx]
    by_cases hc : decide ((distV a d).1 ≤ n + -1 ∧ n + -1 ≤ (distV a d).2) = true
    · rw [if_pos hc, if_neg]
      simp only [decide_eq_true_eq] at hc
      split <;> omega
    · rw [if_neg hc]
  | succ j ih =>
    intro n hj hn
    obtain ⟨K, hK⟩ := ih (n + -1) (by omega) (by omega)
    refine ⟨K + 1, fun k hk => ?_⟩
    obtain ⟨m, rfl⟩ : ∃ m, k = m + 1 := ⟨k - 1, by omega⟩
    have hK' := hK m (by omega)
    (try dsimp only at hK')
    simp only [intervalmonref09_reach.l0]
    rw [w64 (by omega) (by omega), refcan a d (n + -1) h0 h1 (by omega) (by omega) (by omega) (by omega), Option.bind_some, refabs _ (by omega) (by omega), Option.bind_some, if_pos (by simp only [decide_eq_true_eq]; omega), if_pos (by split <;> omega)]
    exact hK'
theorem reach_up (a d : Int) (h0 : 0 ≤ a) (h1 : a ≤ 512) (h4 : -2097152 ≤ d) (h5 : d ≤ 2097152) : ∀ (j : Nat) (n : Int), min (distV a d).2 4194304 - n = j → d ≤ n →
    Ev (fun k => intervalmonref09_reach.l0 k a d 1 n) (min (distV a d).2 4194304) := by
  have bd := dist_bd a d h0 h1 (by omega) (by omega)
  intro j
  induction j with
  | zero =>
    intro n hj hn
    refine ⟨1, fun k hk => ?_⟩
    obtain ⟨m, rfl⟩ : ∃ m, k = m + 1 := ⟨k - 1, by omega⟩
    simp only [intervalmonref09_reach.l0]
    rw [w64 (by omega) (by omega), refcan a d (n + 1) h0 h1 (by omega) (by omega) (by omega) (by omega), Option.bind_some, refabs _ (by omega) (by omega), Option.bind_some]
    have hmx : min (distV a d).2 4194304 = n := by omega
    rw [hmx]
    by_cases hc : decide ((distV a d).1 ≤ n + 1 ∧ n + 1 ≤ (distV a d).2) = true
    · rw [if_pos hc, if_neg]
      simp only [decide_eq_true_eq] at hc
      split <;> omega
    · rw [if_neg hc]
  | succ j ih =>
    intro n hj hn
    obtain ⟨K, hK⟩ := ih (n + 1) (by omega) (by omega)
    refine ⟨K + 1, fun k hk => ?_⟩
    obtain ⟨m, rfl⟩ : ∃ m, k = m + 1 := ⟨k - 1, by omega⟩
    have hK' := hK m (by omega)
    (try dsimp only at hK')
    simp only [intervalmonref09_reach.l0]
    rw [w64 (by omega) (by omega), refcan a d (n + 1) h0 h1 (by omega) (by omega) (by omega) (by omega), Option.bind_some, refabs _ (by omega) (by omega), Option.bind_some, if_pos (by simp only [decide_eq_true_eq]; omega), if_pos (by split <;> omega)]
    exact hK'
theorem reach_lo (a d : Int) (h0 : 0 ≤ a) (h1 : a ≤ 512) (h4 : -2097152 ≤ d) (h5 : d ≤ 2097152) : Ev (fun k => intervalmonref09_reach.f k a d (-1)) (max (distV a d).1 (-4194304)) := by
  have bd := dist_bd a d h0 h1 (by omega) (by omega)
  exact reach_dn a d h0 h1 h4 h5 (d - max (distV a d).1 (-4194304)).toNat d (by omega) (by omega)
theorem reach_hi (a d : Int) (h0 : 0 ≤ a) (h1 : a ≤ 512) (h4 : -2097152 ≤ d) (h5 : d ≤ 2097152) : Ev (fun k => intervalmonref09_reach.f k a d 1) (min (distV a d).2 4194304) := by
  have bd := dist_bd a d h0 h1 (by omega) (by omega)
  exact reach_up a d h0 h1 h4 h5 (min (distV a d).2 4194304 - d).toNat d (by omega) (by omega)
theorem ref_ticks_loop (a d : Int) (h0 : 0 ≤ a) (h1 : a ≤ 512) (hd0 : -9223372036854775808 ≤ d) (hd1 : d ≤ 9223372036854775807) : ∀ (suf pre : List S39) (lo hi : Int), (pre.length : Int) + suf.length ≤ 4611686018427387904 →
    (∀ x ∈ suf, okx x = true) → 0 ≤ lo → hi ≤ 1048576 → Ev (fun k => intervalmonref09_Ticks.l0 k a (pre ++ suf) d lo hi (pre.length : Int)) (tfold a d suf lo hi) := by
  intro suf
  induction suf with
  | nil =>
    intro pre lo hi hb _ _ _
    refine ⟨1, fun k hk => ?_⟩
    obtain ⟨m, rfl⟩ : ∃ m, k = m + 1 := ⟨k - 1, by omega⟩
    simp only [intervalmonref09_Ticks.l0, tfold]
    rw [if_neg (by simp)]
    split <;> rfl
  | cons x suf ih =>
    intro pre lo hi hb hok hlo hhi
    simp only [List.length_cons] at hb
    have hxo := hok x (by simp)
    have hx := (okx_iff x).1 hxo
    by_cases hfar : d - x.f2 < -2097152 ∨ d - x.f2 > 2097152
    · rw [far_clash a d h0 h1 x hxo hfar suf lo hi hlo hhi]
      refine ⟨2, fun k hk => ?_⟩
      obtain ⟨m, rfl⟩ : ∃ m, k = m + 1 + 1 := ⟨k - 2, by omega⟩
      simp only [intervalmonref09_Ticks.l0, intervalmonref09_Ticks.j1]
      rw [lenc, if_pos (by omega), rd_at]
      by_cases c1 : d < -1100000000
      · rw [if_pos c1, if_pos trivial]
      · rw [if_neg c1]
        by_cases c2 : d > 1100000000
        · rw [if_pos c2, if_pos trivial]
        · rw [if_neg c2, if_pos (by omega), w64 (by omega) (by omega), refabs _ (by omega) (by omega), Option.bind_some, if_pos (by simp only [decide_eq_true_eq]; split <;> omega)]
    · have bd := dist_bd a (d - x.f2) h0 h1 (by omega) (by omega)
      have elo : max lo (x.f0 + max (distV a (d - x.f2)).1 (-4194304)) = max lo (x.f0 + (distV a (d - x.f2)).1) := by omega
      have ehi : min hi (x.f1 + min (distV a (d - x.f2)).2 4194304) = min hi (x.f1 + (distV a (d - x.f2)).2) := by omega
      obtain ⟨K, hK⟩ := ih (pre ++ [x]) (max lo (x.f0 + (distV a (d - x.f2)).1)) (min hi (x.f1 + (distV a (d - x.f2)).2)) (by rw [snocl]; omega) (fun y hy => hok y (by simp [hy])) (by omega) (by omega)
      obtain ⟨K1, hK1⟩ := reach_lo a (d - x.f2) h0 h1 (by omega) (by omega)
      obtain ⟨K2, hK2⟩ := reach_hi a (d - x.f2) h0 h1 (by omega) (by omega)
      refine ⟨K + K1 + K2 + 2, fun k hk => ?_⟩
      obtain ⟨m, rfl⟩ : ∃ m, k = m + 1 + 1 := ⟨k - 2, by omega⟩
      have hK' := hK m (by omega)
      (try dsimp only at hK')
      rw [← snoc, snocl] at hK'
      have r1 := hK1 m (by omega)
      have r2 := hK2 m (by omega)
      dsimp only at r1 r2
      simp only [intervalmonref09_Ticks.l0, intervalmonref09_Ticks.j1, tfold]
      rw [lenc, if_pos (by omega), rd_at, if_neg (by omega), if_neg (by omega), if_pos (by omega), w64 (x := d - x.f2) (by omega) (by omega), refabs _ (by omega) (by omega), Option.bind_some, if_neg (by simp only [decide_eq_true_eq]; split <;> omega),
        if_pos (by omega), if_pos (by omega), r1, r2, Option.bind_some, Option.bind_some, mxmax, mnmin, w64 (by omega) (by omega), w64 (by omega) (by omega), w64 (by omega) (by omega), elo, ehi]
      exact hK'
theorem ref_ticks_ev (a d : Int) (l : List S39) (hl : l.length ≤ 1000000) (hd0 : -9223372036854775808 ≤ d) (hd1 : d ≤ 9223372036854775807) : Ev (fun k => intervalmonref09_Ticks.f k a l d) (ticksV a d l) := by
  unfold intervalmonref09_Ticks.f ticksV
  refine Ev.bind (valid_ev' a l hl) ?_
  cases hv : vld a l with
  | false => exact ⟨0, fun k _ => by simp⟩
  | true =>
    have hv' := (vld_iff a l).1 hv
    have h := ref_ticks_loop a d hv'.1 hv'.2.1 hd0 hd1 l [] 0 1048576 (by simp; omega) hv'.2.2.2.2 (by omega) (by omega)
    simp only [if_true]
    split
    · rename_i hr
      match l, hv'.2.2.1, hv'.2.2.2.2, h with
      | x :: l, _, hok, h =>
        have hx := (okx_iff x).1 (hok x (by simp))
        rw [far_clash a d hv'.1 hv'.2.1 x (hok x (by simp)) (by omega) l 0 1048576 (by omega) (by omega)] at h
        exact h
    · exact h
/-! the reference's Offset: with the tick added -/
theorem ref_off_loop (a t : Int) (h0 : 0 ≤ a) (h1 : a ≤ 512) (hd0 : 0 ≤ t) (hd1 : t ≤ 1048576) : ∀ (suf pre : List S39) (lo hi : Int), (pre.length : Int) + suf.length ≤ 4611686018427387904 →
    (∀ x ∈ suf, okx x = true) → -4611686018427387904 ≤ lo → lo ≤ 4611686018427387904 → -4611686018427387904 ≤ hi → hi ≤ 4611686018427387904 →
    Ev (fun k => intervalmonref09_Offset.l0 k a (pre ++ suf) t lo hi (pre.length : Int)) (ofold a t suf (lo - t) (hi - t)) := by
  intro suf
  induction suf with
  | nil =>
    intro pre lo hi hb _ _ _ _ _
    refine ⟨1, fun k hk => ?_⟩
    obtain ⟨m, rfl⟩ : ∃ m, k = m + 1 := ⟨k - 1, by omega⟩
    simp only [intervalmonref09_Offset.l0, ofold]
    rw [if_neg (by simp), w64 (by omega) (by omega), w64 (by omega) (by omega)]
    by_cases c : lo > hi
    · rw [if_pos c, if_pos (by omega)]
    · rw [if_neg c, if_neg (by omega)]
  | cons x suf ih =>
    intro pre lo hi hb hok b1 b2 b3 b4
    simp only [List.length_cons] at hb
    have hx := (okx_iff x).1 (hok x (by simp))
    have s1 := slk_small a (t - x.f1) h0 h1 (by omega) (by omega)
    have s0 := slk_small a (t - x.f0) h0 h1 (by omega) (by omega)
    obtain ⟨K, hK⟩ := ih (pre ++ [x]) (max lo (x.f2 + t - x.f1 - slk a (t - x.f1))) (min hi (x.f2 + t - x.f0 + slk a (t - x.f0))) (by rw [snocl]; omega) (fun y hy => hok y (by simp [hy])) (by omega) (by omega) (by omega) (by omega)
    refine ⟨K + 1, fun k hk => ?_⟩
    obtain ⟨m, rfl⟩ : ∃ m, k = m + 1 := ⟨k - 1, by omega⟩
    have hK' := hK m (by omega)
    (try dsimp only at hK')
    rw [← snoc, snocl] at hK'
    simp only [intervalmonref09_Offset.l0, ofold]
    rw [rd_at, lenc, w64 (x := t - x.f1) (by omega) (by omega), w64 (x := t - x.f0) (by omega) (by omega), if_pos (by omega), if_pos (by omega)]
    rw [refslk a (t - x.f1) h0 h1 (by omega) (by omega), refslk a (t - x.f0) h0 h1 (by omega) (by omega), Option.bind_some, Option.bind_some, mxmax, mnmin,
      w64 (x := x.f2 + t) (by omega) (by omega), w64 (x := x.f2 + t - x.f1) (by omega) (by omega), w64 (x := x.f2 + t - x.f0) (by omega) (by omega), w64 (by omega) (by omega), w64 (by omega) (by omega), w64 (by omega) (by omega), hK']
    congr 2 <;> omega
theorem ofold_start (a t : Int) (h0 : 0 ≤ a) (h1 : a ≤ 512) (hd0 : 0 ≤ t) (hd1 : t ≤ 1048576) (x : S39) (hx : okx x = true) (l : List S39) :
    ofold a t (x :: l) (-4611686018427387904 - t) (4611686018427387904 - t) = ofold a t (x :: l) (-1099511627776) 1099511627776 := by
  have hx := (okx_iff x).1 hx
  have s1 := slk_small a (t - x.f1) h0 h1 (by omega) (by omega)
  have s0 := slk_small a (t - x.f0) h0 h1 (by omega) (by omega)
  show ofold a t l _ _ = ofold a t l _ _
  congr 1 <;> omega
theorem ref_off_ev (a t : Int) (l : List S39) (hl : l.length ≤ 1000000) : Ev (fun k => intervalmonref09_Offset.f k a l t) (offV a t l) := by
  unfold intervalmonref09_Offset.f offV
  refine Ev.bind (valid_ev' a l hl) ?_
  cases hv : vld a l with
  | false =>
    refine ⟨1, fun k hk => ?_⟩
    obtain ⟨m, rfl⟩ : ∃ m, k = m + 1 := ⟨k - 1, by omega⟩
    simp [intervalmonref09_Offset.j0]
  | true =>
    have hv' := (vld_iff a l).1 hv
    by_cases hr : 0 ≤ t ∧ t ≤ 1048576
    · obtain ⟨K, hK⟩ := ref_off_loop a t hv'.1 hv'.2.1 hr.1 hr.2 l [] (-4611686018427387904) 4611686018427387904 (by simp; omega) hv'.2.2.2.2 (by omega) (by omega) (by omega) (by omega)
      refine ⟨K + 1, fun k hk => ?_⟩
      obtain ⟨m, rfl⟩ : ∃ m, k = m + 1 := ⟨k - 1, by omega⟩
      have hK' := hK m (by omega)
      (try dsimp only at hK')
      simp only [List.nil_append, List.length_nil] at hK'
      simp only [if_true, intervalmonref09_Offset.j0]
      rw [if_neg (by omega), if_neg (by simp; omega), if_pos ⟨trivial, hr⟩]
      have e : ofold a t l (-4611686018427387904 - t) (4611686018427387904 - t) = ofold a t l (-1099511627776) 1099511627776 := by
        match l, hv'.2.2.1, hv'.2.2.2.2 with
        | x :: l, _, hok => exact ofold_start a t hv'.1 hv'.2.1 hr.1 hr.2 x (hok x (by simp)) l
      rw [← e]
      exact hK'
    · refine ⟨1, fun k hk => ?_⟩
      obtain ⟨m, rfl⟩ : ∃ m, k = m + 1 := ⟨k - 1, by omega⟩
      simp only [if_true, intervalmonref09_Offset.j0]
      have e : (if True ∧ 0 ≤ t ∧ t ≤ 1048576 then ofold a t l (-1099511627776) 1099511627776 else ((0, 0, 1) : Int × Int × Int)) = (0, 0, 1) := if_neg (fun h => hr h.2)
      rw [e]
      by_cases h : t < 0
      · rw [if_pos h]
      · rw [if_neg h, if_pos (by simp; omega)]
end Go.Proofs.Ythmbpipeogdejaa.Clk

/- Clock: what Valid computes; the law of the distances. -/
import Derived.Test.YthmbpipeogdejaaPClkx1
import Derived.Test.YthmbpipeogdejaaPClkx3
import Derived.Test.YthmbpipeogdejaaPClkx4
namespace Go.Proofs.Ythmbpipeogdejaa.Clk
set_option linter.unusedVariables false
open Go.RowKit Go.Proofs.Ythmbpipeogdejaa.PClk Go.Proofs.YthmbpipeogdejaaW.PrintWords Go.Proofs.YthmbpipeogdejaaW.PrintLast Go.Proofs.YthmbpipeogdejaaW.PrintMore
theorem w64 {x : Int} (h : -9223372036854775808 ≤ x) (h' : x ≤ 9223372036854775807) : wrap64 x = x := by unfold wrap64; omega
theorem rd_at (pre suf : List S39) (x : S39) : rd_T39 (pre ++ x :: suf) (pre.length : Int) = x := by
  simp [rd_T39]
theorem snoc (pre suf : List S39) (x : S39) : pre ++ x :: suf = (pre ++ [x]) ++ suf := by simp
theorem snocl (pre : List S39) (x : S39) : ((pre ++ [x]).length : Int) = (pre.length : Int) + 1 := by simp
theorem lenc (pre suf : List S39) (x : S39) : ((pre ++ x :: suf).length : Int) = (pre.length : Int) + (suf.length : Int) + 1 := by simp; omega
theorem lenn (pre : List S39) : ((pre ++ ([] : List S39)).length : Int) = (pre.length : Int) := by simp
def okx (x : S39) : Bool := decide (0 ≤ x.f0 ∧ x.f0 ≤ x.f1 ∧ x.f1 ≤ 1048576 ∧ -1073741824 ≤ x.f2 ∧ x.f2 ≤ 1073741824)
def vld (a : Int) (l : List S39) : Bool := decide (0 ≤ a ∧ a ≤ 512 ∧ 1 ≤ l.length ∧ l.length ≤ 16) && l.all okx
theorem valid_loop (n : Int) : ∀ (suf pre : List S39), (pre.length : Int) + suf.length ≤ 4611686018427387904 → n = (pre.length : Int) + suf.length → Ev (fun k => clock_Valid.l0 k (pre ++ suf) n (pre.length : Int)) (suf.all okx) := by
  intro suf
  induction suf with
  | nil =>
    intro pre hb hn
    refine ⟨1, fun k hk => ?_⟩
    obtain ⟨m, rfl⟩ : ∃ m, k = m + 1 := ⟨k - 1, by omega⟩
    simp only [clock_Valid.l0]
    rw [if_neg (by simp at hn; omega)]
    rfl
  | cons x suf ih =>
    intro pre hb hn
    simp only [List.length_cons] at hb hn
    obtain ⟨K, hK⟩ := ih (pre ++ [x]) (by rw [snocl]; omega) (by rw [snocl]; omega)
    refine ⟨K + 1, fun k hk => ?_⟩
    obtain ⟨m, rfl⟩ : ∃ m, k = m + 1 := ⟨k - 1, by omega⟩
    have hK' := hK m (by omega)
    (try dsimp only at hK')
    rw [← snoc, snocl] at hK'
    simp only [clock_Valid.l0, List.all_cons]
    rw [rd_at, lenc, w64 (by omega) (by omega)]
    cases hx : okx x with
    | true =>
      simp only [okx, decide_eq_true_eq] at hx
      rw [if_pos (by omega), if_pos (by omega), if_pos (by omega), if_neg (by omega), if_neg (by omega), if_neg (by omega), if_neg (by omega), if_neg (by omega), hK', Bool.true_and]
    | false =>
      simp only [okx, decide_eq_false_iff_not] at hx
      rw [Bool.false_and]
      repeat' split
      all_goals first | rfl | (exfalso; omega)
theorem valid_ev (a : Int) (l : List S39) (hl : l.length ≤ 1000000) : Ev (fun k => clock_Valid.f k a l) (vld a l) := by
  obtain ⟨K, hK⟩ := valid_loop (l.length : Int) l [] (by simp; omega) (by simp)
  simp only [List.nil_append, List.length_nil] at hK
  refine ⟨K + 1, fun k hk => ?_⟩
  obtain ⟨m, rfl⟩ : ∃ m, k = m + 1 := ⟨k - 1, by omega⟩
  have hK' := hK m (by omega)
  (try dsimp only at hK')
  simp only [clock_Valid.f, clock_Valid.j0, if_true]
  have e : ((0 : Nat) : Int) = 0 := rfl
  rw [e] at hK'
  rw [hK']
  unfold vld
  by_cases h : 0 ≤ a ∧ a ≤ 512 ∧ 1 ≤ l.length ∧ l.length ≤ 16
  · rw [decide_eq_true h, Bool.true_and, if_neg (by omega), if_neg (by omega), if_neg (by omega), if_neg (by simp; omega)]
  · rw [decide_eq_false h, Bool.false_and]
    split
    · rfl
    · split
      · rfl
      · split
        · rfl
        · rw [if_pos (by simp; omega)]
/-! the distances -/
theorem slk_neg (dr n : Int) : slk dr (-n) = slk dr n := by
  unfold slk
  by_cases h : n < -n
  · rw [if_pos h, if_neg (by omega)]
  · rw [if_neg h]
    by_cases h2 : -n < - -n
    · rw [if_pos h2, Int.neg_neg]
    · rw [if_neg h2]; have : n = 0 := by omega
      subst this; rfl
theorem slk_le (dr n : Int) (h0 : 0 ≤ dr) (h1 : dr ≤ 512) : 0 ≤ slk dr n ∧ slk dr n ≤ (if n < 0 then -n else n) := by
  by_cases h : n < 0
  · rw [if_pos h, ← slk_neg]; exact slk_bd dr (-n) h0 h1 (by omega)
  · rw [if_neg h]; exact slk_bd dr n h0 h1 (by omega)
theorem slk_half (dr n : Int) (h0 : 0 ≤ dr) (h1 : dr ≤ 512) : slk dr n ≤ ((if n < 0 then -n else n) + 1) / 2 := by
  have key : ∀ n : Int, 0 ≤ n → slk dr n ≤ (n + 1) / 2 := by
    intro n hn
    rw [slk_pos _ _ hn]
    have := Int.mul_le_mul_of_nonneg_left h1 hn
    generalize n * dr = q at *
    omega
  by_cases h : n < 0
  · rw [if_pos h, ← slk_neg]; exact key _ (by omega)
  · rw [if_neg h]; exact key _ (by omega)
theorem hiD_iff (dr d n : Int) (h0 : 0 ≤ dr) (h1 : dr ≤ 512) (hd : 0 ≤ d) : n ≤ hiD dr d ↔ n - slk dr n ≤ d := by
  have b0 : 0 < 1024 - dr := by omega
  by_cases hn : 0 ≤ n
  · rw [slk_pos _ _ hn]
    have e : n ≤ hiD dr d ↔ n * (1024 - dr) ≤ 1024 * (d + 1) - 1 := by unfold hiD; exact Int.le_ediv_iff_mul_le b0
    rw [e, Int.mul_sub]
    generalize n * dr = q
    omega
  · have := hi_bd dr d h0 h1 hd
    have := (slk_le dr n h0 h1).1
    omega
theorem loD_iff (dr d n : Int) (h0 : 0 ≤ dr) (h1 : dr ≤ 512) (hd : 0 < d) : loD dr d ≤ n ↔ d ≤ n + slk dr n := by
  have b0 : 0 < 1024 + dr := by omega
  have e : loD dr d ≤ n ↔ 1024 * d + dr < (n + 1) * (1024 + dr) := by
    unfold loD
    have := @Int.ediv_lt_iff_lt_mul (1024 * d + dr) (n + 1) (1024 + dr) b0
    omega
  rw [e]
  by_cases hn : 0 ≤ n
  · rw [slk_pos _ _ hn, Int.add_mul, Int.mul_add]
    generalize n * dr = q
    omega
  · have := slk_half dr n h0 h1
    rw [if_pos (by omega)] at this
    have hm : (n + 1) * (1024 + dr) ≤ 0 := Int.mul_nonpos_of_nonpos_of_nonneg (by omega) (by omega)
    omega
theorem dist_hi (dr d n : Int) (h0 : 0 ≤ dr) (h1 : dr ≤ 512) : n ≤ (distV dr d).2 ↔ n - slk dr n ≤ d := by
  unfold distV distP
  split
  · rw [if_neg (by omega)]
    have := loD_iff dr (-d) (-n) h0 h1 (by omega)
    rw [slk_neg] at this
    show n ≤ -loD dr (-d) ↔ _
    omega
  · split
    · rename_i h; subst h; exact hiD_iff dr 0 n h0 h1 (by omega)
    · exact hiD_iff dr d n h0 h1 (by omega)
theorem dist_lo (dr d n : Int) (h0 : 0 ≤ dr) (h1 : dr ≤ 512) : (distV dr d).1 ≤ n ↔ d ≤ n + slk dr n := by
  unfold distV distP
  split
  · rw [if_neg (by omega)]
    have := hiD_iff dr (-d) (-n) h0 h1 (by omega)
    rw [slk_neg] at this
    show -hiD dr (-d) ≤ n ↔ _
    omega
  · split
    · rename_i h; subst h
      have := hiD_iff dr 0 (-n) h0 h1 (by omega)
      rw [slk_neg] at this
      show -hiD dr 0 ≤ n ↔ _
      omega
    · exact loD_iff dr d n h0 h1 (by omega)
theorem dist_bd (dr d : Int) (h0 : 0 ≤ dr) (h1 : dr ≤ 512) (h2 : -4398046511104 ≤ d) (h3 : d ≤ 4398046511104) :
    -8796093022210 ≤ (distV dr d).1 ∧ (distV dr d).1 ≤ d ∧ d ≤ (distV dr d).2 ∧ (distV dr d).2 ≤ 8796093022210 := by
  have a := (dist_lo dr d d h0 h1).2 (by have := (slk_le dr d h0 h1).1; omega)
  have b := (dist_hi dr d d h0 h1).2 (by have := (slk_le dr d h0 h1).1; omega)
  have c := dist_lo dr d (-8796093022211) h0 h1
  have e := dist_hi dr d 8796093022211 h0 h1
  have f := slk_half dr (-8796093022211) h0 h1
  have g := slk_half dr 8796093022211 h0 h1
  rw [if_pos (by omega)] at f
  rw [if_neg (by omega)] at g
  have f' := (slk_le dr (-8796093022211) h0 h1).1
  have g' := (slk_le dr 8796093022211 h0 h1).1
  omega
end Go.Proofs.Ythmbpipeogdejaa.Clk

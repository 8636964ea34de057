-- WRITTEN BY wip/xprint.py (a program of this work, over the kit's print): not typed by hand
import Derived.Test.YthmbpipeogdejaaPClkx0
import Derived.Test.YthmbpipeogdejaaPClkx3
import Derived.Shelf.Abstract
namespace Go.Proofs.Ythmbpipeogdejaa.PClk
open Go.RowKit Go.Proofs.YthmbpipeogdejaaW.PrintWords Go.Proofs.YthmbpipeogdejaaW.PrintLast Go.Proofs.YthmbpipeogdejaaW.PrintMore
attribute [local go_sem] max2_int min2_int max_two min_two max_three min_three max_four min_four   -- for this text's walks alone
set_option linter.unusedVariables false
set_option linter.unusedSimpArgs false

--EXT 33 clock_distances
--EXTIMPORT Derived.Shelf.Abstract
/-! ### clock_distances: extern. sort.Search by a walk; the closures; the plain law of the distances. -/
def SearchPost (n : Nat) (p : Nat → Bool) (w : World) (e : Ending) (w' : World) : Prop :=
  ∃ c : Nat, e = .returned (.int .i64 c) ∧ c ≤ n ∧ (∀ t, t < c → p t = false) ∧ (∀ t, c ≤ t → t < n → p t = true) ∧ Below w.heap.size w w'
set_option maxHeartbeats 4000000 in
set_option maxRecDepth 1000000 in
theorem search_calls (g : Nat) (cb : Array Value) (n : Nat) (p : Nat → Bool) (w : World)
    (eg : ∀ args w, (callFunc g args).run Try.prog w = .ok (.enter g args) w) (hsz : n < 4611686018427387904)
    (hf : ∀ (W : World) (i : Nat), i < n → Below w.heap.size w W → Calls Try.prog g (#[.int .i64 i] ++ cb) W fun e w' => e = .returned (.bool (p i)) ∧ ∃ q, w' = W.drewN q)
    (hmono : ∀ a b, a ≤ b → b < n → p a = true → p b = true) :
    Calls Try.prog 55 #[.int .i64 n, .func (.func g) #[] cb] w (SearchPost n p w) := by
  have HF := Aside0.mk hf
  have M := Aside0.mk hmono
  clear hf hmono
  go_enter Try.func55, Try.ntmps55
  go_wp2
  go_loopg [5, 6] n (fun kx s5 s6 wr => ∃ (lo hi : Nat), s5 = .int .i64 lo ∧ s6 = .int .i64 hi ∧ lo ≤ hi ∧ hi ≤ n ∧ hi - lo ≤ kx ∧ Aside0 (Below w.heap.size w wr) ∧
    Aside0 ((∀ t, t < lo → p t = false) ∧ (∀ t, hi ≤ t → t < n → p t = true)))
  case atStart => exact ⟨0, n, rfl, rfl, Nat.zero_le _, Nat.le_refl _, by omega, ⟨Below.refl _ _⟩, ⟨⟨fun t ht => absurd ht (Nat.not_lt_zero _), fun t h1 h2 => by omega⟩⟩⟩
  case round =>
    obtain ⟨lo, hi, rfl, rfl, hlh, hin, hg, HB, I⟩ := hrel
    by_cases hlt : lo < hi
    · have hc := HF.out _ ((lo + hi) / 2) (by omega) HB.out
      rw [show (((lo + hi) / 2 : Nat) : Int) = ((lo : Int) + (hi : Int)) / 2 by omega] at hc
      cases hp : p ((lo + hi) / 2) <;> rw [hp] at hc
      · have HP := Aside0.mk hp
        clear hp
        go_wp2_with (go_at_fn g; refine hc.mono ?_; rintro e w' ⟨rfl, nq, rfl⟩)
        go_roundg (hi - ((lo + hi) / 2 + 1))
        case measure => omega
        case rel =>
          exact ⟨(lo + hi) / 2 + 1, hi, by rw [show ((lo : Int) + (hi : Int)) / 2 + 1 = (((lo + hi) / 2 + 1 : Nat) : Int) by omega], rfl, by omega, hin, Nat.le_refl _, ⟨pw_below_drewN HB.out _⟩, ⟨⟨fun t ht => (by
            cases h : p t with
            | false => rfl
            | true => have := M.out t ((lo + hi) / 2) (by omega) (by omega) h; rw [HP.out] at this; cases this), I.out.2⟩⟩⟩
      · have HP := Aside0.mk hp
        clear hp
        go_wp2_with (go_at_fn g; refine hc.mono ?_; rintro e w' ⟨rfl, nq, rfl⟩)
        go_roundg ((lo + hi) / 2 - lo)
        case measure => omega
        case rel =>
          exact ⟨lo, (lo + hi) / 2, rfl, by rw [show ((lo : Int) + (hi : Int)) / 2 = (((lo + hi) / 2 : Nat) : Int) by omega], by omega, by omega, Nat.le_refl _, ⟨pw_below_drewN HB.out _⟩, ⟨⟨I.out.1, fun t ht htn => M.out ((lo + hi) / 2) t ht htn HP.out⟩⟩⟩
    · obtain rfl : hi = lo := by omega
      go_wp2
      go_ret
      exact ⟨hi, rfl, hin, I.out.1, I.out.2, HB.out⟩
def slk (dr n : Int) : Int := ((if n < -n then -n else n) * dr + 1023) / 1024
theorem slk_val (dr n : Int) (h0 : 0 ≤ dr) (h1 : dr ≤ 512) (h2 : -17592186044416 ≤ n) (h3 : n ≤ 17592186044416) : clock_slack.f dr n = some (slk dr n) := by
  unfold clock_slack.f slk mx
  have e : wrap64 (-n) = -n := by unfold wrap64; omega
  rw [e]
  generalize hm : (if n < -n then -n else n) = m
  have hm0 : 0 ≤ m := by split at hm <;> omega
  have hm1 : m ≤ 17592186044416 := by split at hm <;> omega
  have q0 : 0 ≤ m * dr := Int.mul_nonneg hm0 h0
  have q1 : m * dr ≤ 17592186044416 * 512 := Int.mul_le_mul hm1 h1 h0 (by omega)
  generalize m * dr = q at *
  have e1 : wrap64 q = q := by unfold wrap64; omega
  have e2 : wrap64 (q + 1024) = q + 1024 := by unfold wrap64; omega
  have e3 : wrap64 (q + 1024 - 1) = q + 1023 := by unfold wrap64; omega
  rw [e1, e2, e3, Int.tdiv_eq_ediv_of_nonneg (by omega)]
  have e4 : wrap64 ((q + 1023) / 1024) = (q + 1023) / 1024 := by unfold wrap64; omega
  rw [e4]
theorem slack_same (a0 a1 : Int) (w : World) : Calls Try.prog 34 #[.int .i64 a0, .int .i64 a1] w fun e w' => e = .returned (.int .i64 ((clock_slack.f a0 a1).getD 0)) ∧ w' = w := by
  have H : (clock_slack.f a0 a1) = some (wrap64 (Int.tdiv (wrap64 ((wrap64 ((wrap64 ((mx a1 (wrap64 (-a1))) * a0)) + 1024)) - 1)) 1024)) := rfl
  rw [H, Option.getD_some]
  clear H
  obtain ⟨ji3, hji3⟩ : ∃ j_ : Int, (mx a1 (wrap64 (-a1))) = j_ := ⟨_, rfl⟩
  rw [hji3]
  have hji3_ : (if a1 < (wrap64 (-a1)) then (wrap64 (-a1)) else a1) = ji3 := hji3
  go_enter Try.func34, Try.ntmps34
  go_wp2
  go_ret
  exact ⟨by first | rfl | (simp only [← hji3]; rfl), rfl⟩
def DrewPost (v : Value) (W : World) (e : Ending) (w' : World) : Prop := e = .returned v ∧ ∃ q, w' = W.drewN q
set_option maxHeartbeats 1000000 in
theorem c1_calls (dr d n s : Int) (b : Nat) (W : World) (hc0 : W.cell? ⟨b, 0, none⟩ = some (.int .i64 dr)) (hc1 : W.cell? ⟨b + 1, 0, none⟩ = some (.int .i64 d))
    (hs : clock_slack.f dr n = some s) (b0 : 0 ≤ n) (b1 : n ≤ 17592186044416) (b2 : 0 ≤ s) (b3 : s ≤ 17592186044416) :
    Calls Try.prog 56 #[.int .i64 n, .pointer (some ⟨b, 0, none⟩), .pointer (some ⟨b + 1, 0, none⟩)] W (DrewPost (.bool (decide (n - s > d))) W) := by
  have hS := fun W => slack_same dr n W
  rw [hs] at hS
  simp only [Option.getD_some] at hS
  have HS := Aside0.mk hS
  clear hS hs
  go_enter Try.func56, Try.ntmps56
  go_wp2
  go_quiet ((go_at_call 34; exact Calls.quiet_of_same (HS.out _)))
  go_wp2
  go_ret
  exact ⟨rfl, _, rfl⟩
set_option maxHeartbeats 1000000 in
theorem c2_calls (dr d n s : Int) (b : Nat) (W : World) (hc0 : W.cell? ⟨b, 0, none⟩ = some (.int .i64 dr)) (hc1 : W.cell? ⟨b + 1, 0, none⟩ = some (.int .i64 d))
    (hs : clock_slack.f dr n = some s) (b0 : 0 ≤ n) (b1 : n ≤ 17592186044416) (b2 : 0 ≤ s) (b3 : s ≤ 17592186044416) :
    Calls Try.prog 57 #[.int .i64 n, .pointer (some ⟨b, 0, none⟩), .pointer (some ⟨b + 1, 0, none⟩)] W (DrewPost (.bool (decide (n + s ≥ d))) W) := by
  have hS := fun W => slack_same dr n W
  rw [hs] at hS
  simp only [Option.getD_some] at hS
  have HS := Aside0.mk hS
  clear hS hs
  go_enter Try.func57, Try.ntmps57
  go_wp2
  go_quiet ((go_at_call 34; exact Calls.quiet_of_same (HS.out _)))
  go_wp2
  go_ret
  exact ⟨rfl, _, rfl⟩
def hiD (dr d : Int) : Int := (1024 * (d + 1) - 1) / (1024 - dr)
def loD (dr d : Int) : Int := (1024 * d + dr) / (1024 + dr)
def distP (dr d : Int) : Int × Int := if d = 0 then (- hiD dr 0, hiD dr 0) else (loD dr d, hiD dr d)
def distV (dr d : Int) : Int × Int := if d < 0 then (-(distP dr (-d)).2, -(distP dr (-d)).1) else distP dr d
theorem slk_pos (dr n : Int) (h : 0 ≤ n) : slk dr n = (n * dr + 1023) / 1024 := by
  unfold slk; rw [if_neg (by omega)]
theorem slk_bd (dr n : Int) (h0 : 0 ≤ dr) (h1 : dr ≤ 512) (h2 : 0 ≤ n) : 0 ≤ slk dr n ∧ slk dr n ≤ n := by
  rw [slk_pos _ _ h2]
  have q0 : 0 ≤ n * dr := Int.mul_nonneg h2 h0
  have q1 : n * dr ≤ n * 512 := Int.mul_le_mul_of_nonneg_left h1 h2
  generalize n * dr = q at *
  omega
theorem hi_is (dr d : Int) (c : Nat) (h0 : 0 ≤ dr) (h1 : dr ≤ 512) (hd : 0 ≤ d) (hf : ∀ t : Nat, t < c → decide ((t : Int) - slk dr t > d) = false)
    (ht : ∀ t : Nat, c ≤ t → (t : Int) < 2 * d + 4 → decide ((t : Int) - slk dr t > d) = true) : (c : Int) = hiD dr d + 1 := by
  have P : ∀ t : Nat, ((t : Int) - slk dr t > d) ↔ 1024 * (d + 1) ≤ (t : Int) * (1024 - dr) := by
    intro t
    rw [slk_pos _ _ (by omega), Int.mul_sub]
    generalize (t : Int) * dr = q at *
    omega
  have b0 : 0 < 1024 - dr := by omega
  have e1 : hiD dr d * (1024 - dr) ≤ 1024 * (d + 1) - 1 := Int.ediv_mul_le _ (by omega)
  have e2 : 1024 * (d + 1) - 1 < (hiD dr d + 1) * (1024 - dr) := Int.lt_ediv_add_one_mul_self _ b0
  have e3 : 0 ≤ hiD dr d := Int.ediv_nonneg (by omega) (by omega)
  obtain ⟨m, hm⟩ := Int.eq_ofNat_of_zero_le e3
  rw [hm] at e1 e2 ⊢
  have e4 : (m : Int) * 512 ≤ (m : Int) * (1024 - dr) := Int.mul_le_mul_of_nonneg_left (by omega) (by omega)
  have n1 : ¬ ((m : Int) - slk dr m > d) := by rw [P]; omega
  have n2 : ((m + 1 : Nat) : Int) - slk dr (m + 1 : Nat) > d := by rw [P]; rw [show ((m + 1 : Nat) : Int) = (m : Int) + 1 from by omega]; omega
  rcases Nat.lt_or_ge m c with hc | hc
  · rcases Nat.lt_or_ge (m + 1) c with hc2 | hc2
    · have := hf (m + 1) hc2
      simp only [decide_eq_false_iff_not] at this
      exact absurd n2 this
    · omega
  · have := ht m hc (by omega)
    simp only [decide_eq_true_eq] at this
    exact absurd this n1
theorem lo_is (dr d : Int) (c : Nat) (h0 : 0 ≤ dr) (h1 : dr ≤ 512) (hd : 0 < d) (hcd : (c : Int) ≤ d) (hf : ∀ t : Nat, t < c → decide ((t : Int) + slk dr t ≥ d) = false)
    (ht : ∀ t : Nat, c ≤ t → (t : Int) < d → decide ((t : Int) + slk dr t ≥ d) = true) : (c : Int) = loD dr d := by
  have P : ∀ t : Nat, ((t : Int) + slk dr t ≥ d) ↔ 1024 * d - 1023 ≤ (t : Int) * (1024 + dr) := by
    intro t
    rw [slk_pos _ _ (by omega), Int.mul_add]
    generalize (t : Int) * dr = q at *
    omega
  have b0 : 0 < 1024 + dr := by omega
  have e1 : loD dr d * (1024 + dr) ≤ 1024 * d + dr := Int.ediv_mul_le _ (by omega)
  have e2 : 1024 * d + dr < (loD dr d + 1) * (1024 + dr) := Int.lt_ediv_add_one_mul_self _ b0
  have e3 : 0 ≤ loD dr d := Int.ediv_nonneg (by omega) (by omega)
  obtain ⟨m, hm⟩ := Int.eq_ofNat_of_zero_le e3
  rw [hm] at e1 e2 ⊢
  have e5 : ((m : Int) + 1) * (1024 + dr) = (m : Int) * (1024 + dr) + (1024 + dr) := by rw [Int.add_mul, Int.one_mul]
  rw [e5] at e2
  have n2 : (m : Int) + slk dr m ≥ d := by rw [P]; omega
  have hmd : (m : Int) ≤ d := by
    rcases Int.lt_or_le d (m : Int) with hx | hx
    · have := Int.mul_le_mul_of_nonneg_right (show d + 1 ≤ (m : Int) by omega) (show 0 ≤ 1024 + dr by omega)
      rw [Int.add_mul, Int.one_mul, Int.mul_add] at this
      have := Int.mul_nonneg (show 0 ≤ d by omega) h0
      omega
    · exact hx
  rcases Nat.lt_or_ge m c with hc | hc
  · have := hf m hc
    simp only [decide_eq_false_iff_not] at this
    exact absurd n2 this
  · rcases Nat.lt_or_ge c m with hc2 | hc2
    · have n1 : ¬ ((c : Int) + slk dr c ≥ d) := by
        rw [P]
        have := Int.mul_le_mul_of_nonneg_right (show (c : Int) + 1 ≤ (m : Int) by omega) (show 0 ≤ 1024 + dr by omega)
        rw [Int.add_mul, Int.one_mul] at this
        omega
      have := ht c (Nat.le_refl _) (by omega)
      simp only [decide_eq_true_eq] at this
      exact absurd this n1
    · omega
def IntPost (p : Int) (w : World) (e : Ending) (w' : World) : Prop := e = .returned (.int .i64 p) ∧ Below w.heap.size w w'
theorem s1 (dr d : Int) (W : World) (b : Nat) (hb : b + 1 < W.heap.size) (h0 : 0 ≤ dr) (h1 : dr ≤ 512) (h2 : 0 ≤ d) (h3 : d ≤ 4398046511104)
    (hc0 : W.cell? ⟨b, 0, none⟩ = some (.int .i64 dr)) (hc1 : W.cell? ⟨b + 1, 0, none⟩ = some (.int .i64 d)) :
    Calls Try.prog 55 #[.int .i64 (2 * d + 4), .func (.func 56) #[] #[.pointer (some ⟨b, 0, none⟩), .pointer (some ⟨b + 1, 0, none⟩)]] W (IntPost (hiD dr d + 1) W) := by
  obtain ⟨N, hN⟩ : ∃ N : Nat, 2 * d + 4 = (N : Int) := ⟨(2 * d + 4).toNat, by omega⟩
  rw [hN]
  refine (search_calls 56 #[.pointer (some ⟨b, 0, none⟩), .pointer (some ⟨b + 1, 0, none⟩)] N (fun t => decide ((t : Int) - slk dr t > d)) W (enters_of Try.func56 (by kernel_rfl) rfl) (by omega) ?_ ?_).mono ?_
  · intro W1 i hi hB
    have e := slk_val dr i h0 h1 (by omega) (by omega)
    have sb := slk_bd dr i h0 h1 (by omega)
    exact c1_calls dr d i (slk dr i) b W1 ((hB.cell (p := ⟨b, 0, none⟩) (by show b < _; omega)).trans hc0) ((hB.cell (p := ⟨b + 1, 0, none⟩) (by show b + 1 < _; omega)).trans hc1) e (by omega) (by omega) (by omega) (by omega)
  · intro x y hxy hy hx
    simp only [decide_eq_true_eq] at hx ⊢
    rw [slk_pos _ _ (by omega)] at hx ⊢
    have q : (y : Int) * (1024 - dr) ≥ (x : Int) * (1024 - dr) := Int.mul_le_mul_of_nonneg_right (by omega) (by omega)
    rw [Int.mul_sub, Int.mul_sub] at q
    generalize (x : Int) * dr = q1 at *
    generalize (y : Int) * dr = q2 at *
    omega
  · rintro e w' ⟨c, rfl, hcN, hf, ht, hB⟩
    have := hi_is dr d c h0 h1 h2 hf (fun t h4 h5 => ht t h4 (by omega))
    exact ⟨by rw [this], hB⟩
theorem s2 (dr d : Int) (W : World) (b : Nat) (hb : b + 1 < W.heap.size) (h0 : 0 ≤ dr) (h1 : dr ≤ 512) (h2 : 0 < d) (h3 : d ≤ 4398046511104)
    (hc0 : W.cell? ⟨b, 0, none⟩ = some (.int .i64 dr)) (hc1 : W.cell? ⟨b + 1, 0, none⟩ = some (.int .i64 d)) :
    Calls Try.prog 55 #[.int .i64 d, .func (.func 57) #[] #[.pointer (some ⟨b, 0, none⟩), .pointer (some ⟨b + 1, 0, none⟩)]] W (IntPost (loD dr d) W) := by
  obtain ⟨N, hN⟩ : ∃ N : Nat, d = (N : Int) := ⟨d.toNat, by omega⟩
  rw [show (#[.int .i64 d, .func (.func 57) #[] #[.pointer (some ⟨b, 0, none⟩), .pointer (some ⟨b + 1, 0, none⟩)]] : Array Value) = #[.int .i64 (N : Int), .func (.func 57) #[] #[.pointer (some ⟨b, 0, none⟩), .pointer (some ⟨b + 1, 0, none⟩)]] from by rw [hN]]
  refine (search_calls 57 #[.pointer (some ⟨b, 0, none⟩), .pointer (some ⟨b + 1, 0, none⟩)] N (fun t => decide ((t : Int) + slk dr t ≥ d)) W (enters_of Try.func57 (by kernel_rfl) rfl) (by omega) ?_ ?_).mono ?_
  · intro W1 i hi hB
    have e := slk_val dr i h0 h1 (by omega) (by omega)
    have sb := slk_bd dr i h0 h1 (by omega)
    exact c2_calls dr d i (slk dr i) b W1 ((hB.cell (p := ⟨b, 0, none⟩) (by show b < _; omega)).trans hc0) ((hB.cell (p := ⟨b + 1, 0, none⟩) (by show b + 1 < _; omega)).trans hc1) e (by omega) (by omega) (by omega) (by omega)
  · intro x y hxy hy hx
    simp only [decide_eq_true_eq] at hx ⊢
    rw [slk_pos _ _ (by omega)] at hx ⊢
    have q : (y : Int) * (1024 + dr) ≥ (x : Int) * (1024 + dr) := Int.mul_le_mul_of_nonneg_right (by omega) (by omega)
    rw [Int.mul_add, Int.mul_add] at q
    generalize (x : Int) * dr = q1 at *
    generalize (y : Int) * dr = q2 at *
    omega
  · rintro e w' ⟨c, rfl, hcN, hf, ht, hB⟩
    have := lo_is dr d c h0 h1 h2 (by omega) hf (fun t h4 h5 => ht t h4 (by omega))
    exact ⟨by rw [this], hB⟩
def DistPost (p : Int × Int) (w : World) (e : Ending) (w' : World) : Prop := e = .returned (.tuple #[.int .i64 p.1, .int .i64 p.2]) ∧ Below w.heap.size w w'
theorem cell0 (W : World) (u v : Value) (t : TypeId) : ((W.alloc (.cells #[u] t)).alloc (.cells #[v] t)).cell? ⟨W.heap.size, 0, none⟩ = some u := by
  simp
theorem cell1 (W : World) (u v : Value) (t : TypeId) : ((W.alloc (.cells #[u] t)).alloc (.cells #[v] t)).cell? ⟨W.heap.size + 1, 0, none⟩ = some v := by
  simp
theorem hi_bd (dr d : Int) (h0 : 0 ≤ dr) (h1 : dr ≤ 512) (h2 : 0 ≤ d) : 0 ≤ hiD dr d ∧ hiD dr d ≤ 2 * d + 1 := by
  have e1 : hiD dr d * (1024 - dr) ≤ 1024 * (d + 1) - 1 := Int.ediv_mul_le _ (by omega)
  have e3 : 0 ≤ hiD dr d := Int.ediv_nonneg (by omega) (by omega)
  have e4 : hiD dr d * 512 ≤ hiD dr d * (1024 - dr) := Int.mul_le_mul_of_nonneg_left (by omega) (by omega)
  omega
theorem lo_bd (dr d : Int) (h0 : 0 ≤ dr) (h1 : dr ≤ 512) (h2 : 0 ≤ d) : 0 ≤ loD dr d ∧ loD dr d ≤ d + 1 := by
  have e1 : loD dr d * (1024 + dr) ≤ 1024 * d + dr := Int.ediv_mul_le _ (by omega)
  have e3 : 0 ≤ loD dr d := Int.ediv_nonneg (by omega) (by omega)
  have e4 : loD dr d * 1024 ≤ loD dr d * (1024 + dr) := Int.mul_le_mul_of_nonneg_left (by omega) (by omega)
  rcases Int.lt_or_le (d + 1) (loD dr d) with hx | hx
  · have := Int.mul_le_mul_of_nonneg_right (show d + 2 ≤ loD dr d by omega) (show 0 ≤ 1024 + dr by omega)
    rw [Int.add_mul, Int.mul_add] at this
    have := Int.mul_nonneg h2 h0
    omega
  · exact ⟨e3, hx⟩
set_option maxHeartbeats 1000000 in
theorem dist_pos (dr d : Int) (w : World) (h0 : 0 ≤ dr) (h1 : dr ≤ 512) (h2 : 0 ≤ d) (h3 : d ≤ 4398046511104) :
    Calls Try.prog 33 #[.int .i64 dr, .int .i64 d] w (DistPost (distP dr d) w) := by
  have hlt : ¬ d < 0 := by omega
  have hb := hi_bd dr d h0 h1 h2
  have C1 := Aside0.mk (s1 dr d ((w.alloc (Obj.cells #[Value.int IntKind.i64 dr] 3)).alloc (Obj.cells #[Value.int IntKind.i64 d] 3)) w.heap.size (by simp) h0 h1 h2 h3 (cell0 _ _ _ _) (cell1 _ _ _ _))
  have q0 := cell0 w (.int .i64 dr) (.int .i64 d) 3
  have q1 := cell1 w (.int .i64 dr) (.int .i64 d) 3
  by_cases hd : d = 0
  · subst hd
    have hP : distP dr 0 = (- hiD dr 0, hiD dr 0) := rfl
    rw [hP]
    have e : (1 : Int) - (hiD dr 0 + 1) = - hiD dr 0 := by omega
    generalize hiD dr 0 = H at *
    have E := Aside0.mk e
    clear e hP
    go_enter Try.func33, Try.ntmps33
    go_wp2_with fail
    refine C1.out.mono ?_
    rintro e w1 ⟨rfl, hB⟩
    have r0 := (hB.cell (p := ⟨w.heap.size, 0, none⟩) (by simp; try omega)).trans q0
    have r1 := (hB.cell (p := ⟨w.heap.size + 1, 0, none⟩) (by simp)).trans q1
    have HB := Aside0.mk hB
    clear hB
    go_wp2
    go_ret2
    refine ⟨by rw [E.out]; simp, ?_⟩
    exact (((Below.refl _ _).alloc (Nat.le_refl _) _).alloc (by simp) _).trans (HB.out.mono (by simp; omega))
  · have hd1 : 0 < d := by omega
    have lb := lo_bd dr d h0 h1 h2
    have C2 := Aside0.mk fun W hb q0 q1 => s2 dr d W w.heap.size hb h0 h1 hd1 h3 q0 q1
    have hP : distP dr d = (loD dr d, hiD dr d) := by unfold distP; rw [if_neg hd]
    rw [hP]
    have hbq : (d == 0) = false := by simp [hd]
    generalize hiD dr d = H at *
    generalize loD dr d = L at *
    clear hP
    go_enter Try.func33, Try.ntmps33
    go_wp2_with fail
    refine C1.out.mono ?_
    rintro e w1 ⟨rfl, hB⟩
    have r0 := (hB.cell (p := ⟨w.heap.size, 0, none⟩) (by simp; try omega)).trans q0
    have r1 := (hB.cell (p := ⟨w.heap.size + 1, 0, none⟩) (by simp)).trans q1
    have hz : w.heap.size + 1 < w1.heap.size := by have := hB.size; simp at this; omega
    have C3 := Aside0.mk (C2.out w1 hz r0 r1)
    have HB := Aside0.mk hB
    clear hB hz
    go_wp2_with fail
    refine C3.out.mono ?_
    rintro e w2 ⟨rfl, hB⟩
    have HB2 := Aside0.mk hB
    clear hB
    go_wp2
    go_ret2
    refine ⟨by simp, ?_⟩
    have hq : Below w.heap.size w w1 := (((Below.refl _ _).alloc (Nat.le_refl _) _).alloc (by simp) _).trans (HB.out.mono (by simp; omega))
    exact hq.trans (HB2.out.mono hq.size)
set_option maxHeartbeats 1000000 in
theorem dist_neg (dr d : Int) (w : World) (h0 : 0 ≤ dr) (h1 : dr ≤ 512) (h2 : d < 0) (h3 : -4398046511104 ≤ d) :
    Calls Try.prog 33 #[.int .i64 dr, .int .i64 d] w (DistPost (-(distP dr (-d)).2, -(distP dr (-d)).1) w) := by
  have hb := hi_bd dr (-d) h0 h1 (by omega)
  have lb := lo_bd dr (-d) h0 h1 (by omega)
  have C1 := Aside0.mk (dist_pos dr (-d) ((w.alloc (Obj.cells #[Value.int IntKind.i64 dr] 3)).alloc (Obj.cells #[Value.int IntKind.i64 d] 3)) h0 h1 (by omega) (by omega))
  have q0 := cell0 w (.int .i64 dr) (.int .i64 d) 3
  have q1 := cell1 w (.int .i64 dr) (.int .i64 d) 3
  have hP : distP dr (-d) = (loD dr (-d), hiD dr (-d)) := by unfold distP; rw [if_neg (by omega)]
  rw [hP] at C1 ⊢
  clear hP
  generalize hiD dr (-d) = H at *
  generalize loD dr (-d) = L at *
  go_enter Try.func33, Try.ntmps33
  go_wp2_with fail
  refine C1.out.mono ?_
  rintro e w1 ⟨rfl, hB⟩
  have HB := Aside0.mk hB
  clear hB
  go_wp2
  go_ret2
  refine ⟨by simp, ?_⟩
  exact (((Below.refl _ _).alloc (Nat.le_refl _) _).alloc (by simp) _).trans (HB.out.mono (by simp; omega))
/-- The Lean function: what clock.distances returns, within the bounds that its callers keep. -/
def clock_distances.f (dr d : Int) : Option (Int × Int) := if 0 ≤ dr ∧ dr ≤ 512 ∧ -4398046511104 ≤ d ∧ d ≤ 4398046511104 then some (distV dr d) else none
theorem clock_distances.calls (a0 : Int) (a1 : Int) (r1 : Int) (r2 : Int) (w : World) (h : clock_distances.f a0 a1 = some (r1, r2)) :
    Calls Try.prog 33 #[.int .i64 a0, .int .i64 a1] w fun e w' => e = .returned (.tuple #[.int .i64 r1, .int .i64 r2]) ∧ Below w.heap.size w w' := by
  unfold clock_distances.f at h
  split at h
  · rename_i hb
    obtain ⟨h0, h1, h2, h3⟩ := hb
    unfold distV at h
    split at h
    · have := dist_neg a0 a1 w h0 h1 (by assumption) h2
      simp only [Option.some.injEq, Prod.mk.injEq] at h
      unfold DistPost at this
      rw [h.1, h.2] at this
      exact this
    · have := dist_pos a0 a1 w h0 h1 (by omega) h3
      unfold DistPost at this
      rw [Option.some.inj h] at this
      exact this
  · cases h

end Go.Proofs.Ythmbpipeogdejaa.PClk

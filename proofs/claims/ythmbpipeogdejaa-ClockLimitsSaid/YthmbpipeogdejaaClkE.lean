/- Clock: the generators of clocks and exchanges; Ticks and Offset are dual. -/
import Derived.Test.YthmbpipeogdejaaClkC
import Derived.Test.YthmbpipeogdejaaPClkx30
namespace Go.Proofs.Ythmbpipeogdejaa.Clk
set_option linter.unusedVariables false
open Go.RowKit Go.Proofs.Ythmbpipeogdejaa.PClk Go.Proofs.YthmbpipeogdejaaW.PrintWords Go.Proofs.YthmbpipeogdejaaW.PrintLast Go.Proofs.YthmbpipeogdejaaW.PrintMore
def inI (n : Int) : Prop := -9223372036854775808 ≤ n ∧ n ≤ 9223372036854775807
def arV (n m : Int) : Int := (if n < 0 then -(n + 1) else n) % m
theorem around_ev (n m : Int) (hn : inI n) (hm : 1 ≤ m) : intervalmonref01_Around.f n m = some (arV n m) := by
  unfold inI at hn
  unfold intervalmonref01_Around.f arV
  by_cases h : n < 0
  · rw [if_pos h, if_neg (by omega), if_pos h, w64 (x := n + 1) (by omega) (by omega), w64 (by omega) (by omega), Int.tmod_eq_emod_of_nonneg (by omega)]
  · rw [if_neg h, if_neg (by omega), if_neg h, Int.tmod_eq_emod_of_nonneg (by omega)]
theorem arV_bd (n m : Int) (hm : 1 ≤ m) : 0 ≤ arV n m ∧ arV n m < m := ⟨Int.emod_nonneg _ (by omega), Int.emod_lt_of_pos _ (by omega)⟩
theorem bound_ev (n m : Int) (hn : inI n) (hm : 0 ≤ m) (hm' : m ≤ 1000000) : ∃ b, intervalmonref01_Bound.f n m = some b ∧ -m ≤ b ∧ b ≤ m := by
  unfold intervalmonref01_Bound.f
  rw [w64 (x := 2 * m) (by omega) (by omega), w64 (x := 2 * m + 1) (by omega) (by omega), around_ev n _ hn (by omega), Option.bind_some]
  have := arV_bd n (2 * m + 1) (by omega)
  exact ⟨_, rfl, by rw [w64 (by omega) (by omega)]; omega, by rw [w64 (by omega) (by omega)]; omega⟩
theorem rd_mem (l : List Int) (i : Int) (h0 : 0 ≤ i) (h : i < l.length) : rd l i ∈ l := by
  unfold rd
  rw [List.getD_eq_getElem?_getD, List.getElem?_eq_getElem (by omega)]
  simp
theorem pick_ev (l : List Int) (i m : Int) (hl : ∀ x ∈ l, inI x) (h0 : 0 ≤ i) (hm : 1 ≤ m) : ∃ b, intervalmonref01_Pick.f l i m = some b ∧ 0 ≤ b ∧ b < m := by
  unfold intervalmonref01_Pick.f
  rw [if_neg (by omega)]
  by_cases h : i ≥ (l.length : Int)
  · rw [if_pos h]; exact ⟨0, rfl, by omega, by omega⟩
  · rw [if_neg h, if_pos h0, if_pos (by omega), around_ev _ m (hl _ (rd_mem l i h0 (by omega))) hm, Option.bind_some]
    exact ⟨_, rfl, arV_bd _ m hm⟩
theorem floor_ev (n : Int) (h0 : -1000000 ≤ n) (h1 : n ≤ 1000000) : intervalmonref09_floor.f n = some (n / 1024) := by
  unfold intervalmonref09_floor.f
  by_cases h : n < 0
  · rw [if_pos h, w64 (x := 1023 - n) (by omega) (by omega), Int.tdiv_eq_ediv_of_nonneg (by omega), w64 (x := (1023 - n) / 1024) (by omega) (by omega), w64 (by omega) (by omega)]
    congr 1; omega
  · rw [if_neg h, Int.tdiv_eq_ediv_of_nonneg (by omega), w64 (by omega) (by omega)]
/-- The readings made so far, and the advance: a clock within its drift. -/
def RdI (dr base : Int) (t : Nat) (acc : List Int) (ahead : Int) : Prop :=
  acc.length = t ∧ ∃ A : Nat → Int, A 0 = 0 ∧ A t = ahead ∧ (∀ i j, i ≤ j → j ≤ t → A j - A i ≤ dr * ((j : Int) - i) ∧ A i - A j ≤ dr * ((j : Int) - i)) ∧ ∀ i, i < t → acc.getD i 0 = base + i + A i / 1024
theorem RdI_step (dr base : Int) (t : Nat) (acc : List Int) (ahead b : Int) (h : RdI dr base t acc ahead) (hb : -dr ≤ b) (hb' : b ≤ dr) : RdI dr base (t + 1) (acc ++ [base + t + ahead / 1024]) (ahead + b) := by
  obtain ⟨hl, A, h0, ht, hc, hv⟩ := h
  refine ⟨by simp [hl], fun i => if i ≤ t then A i else ahead + b, by simp [h0], by simp only [if_neg (show ¬ t + 1 ≤ t by omega)], ?_, ?_⟩
  · intro i j hij hj
    by_cases hjt : j ≤ t
    · simp only [if_pos hjt, if_pos (show i ≤ t by omega)]; exact hc i j hij hjt
    · obtain rfl : j = t + 1 := by omega
      simp only [if_neg hjt]
      by_cases hit : i ≤ t
      · simp only [if_pos hit]
        have := hc i t hit (Nat.le_refl _)
        rw [ht] at this
        have e : dr * (((t + 1 : Nat) : Int) - i) = dr * ((t : Int) - i) + dr := by
          rw [show (((t + 1 : Nat) : Int) - i) = ((t : Int) - i) + 1 by omega, Int.mul_add, Int.mul_one]
        rw [e]; omega
      · obtain rfl : i = t + 1 := by omega
        simp only [if_neg hit, Int.sub_self, Int.mul_zero]
        omega
  · intro i hi
    by_cases hit : i < t
    · simp only [if_pos (show i ≤ t by omega)]
      rw [← hv i hit, List.getD_eq_getElem?_getD, List.getD_eq_getElem?_getD, List.getElem?_append_left (by omega)]
    · obtain rfl : i = t := by omega
      simp only [if_pos (Nat.le_refl _), ht]
      rw [List.getD_eq_getElem?_getD, List.getElem?_append_right (by omega), hl]
      simp
theorem readings_loop (dr base : Int) (l : List Int) (hl : ∀ x ∈ l, inI x) (hlen : (l.length : Int) ≤ 4611686018427387904) (h0 : 0 ≤ dr) (h1 : dr ≤ 512) (b0 : -1000 ≤ base) (b1 : base ≤ 1000) : ∀ (d t : Nat) (acc : List Int) (ahead : Int), t + d = 40 → RdI dr base t acc ahead →
    ∃ r q, Ev (fun k => intervalmonref09_Readings.l0 k dr base l 40 acc ahead (t : Int)) r ∧ RdI dr base 40 r q := by
  intro d
  induction d with
  | zero =>
    intro t acc ahead ht hI
    obtain rfl : t = 40 := by omega
    refine ⟨acc, ahead, ⟨1, fun k hk => ?_⟩, hI⟩
    obtain ⟨m, rfl⟩ : ∃ m, k = m + 1 := ⟨k - 1, by omega⟩
    simp only [intervalmonref09_Readings.l0]
    rw [if_neg (by omega)]
  | succ d ih =>
    intro t acc ahead ht hI
    have hA : -20480 ≤ ahead ∧ ahead ≤ 20480 := by
      obtain ⟨_, A, g0, g1, g2, _⟩ := hI
      have := g2 0 t (by omega) (Nat.le_refl _)
      rw [g0, g1] at this
      have e : dr * ((t : Int) - ((0 : Nat) : Int)) ≤ 512 * 40 := Int.mul_le_mul h1 (by omega) (by omega) (by omega)
      omega
    have hacc : acc.length = t := hI.1
    by_cases hz : (l.length : Int) > 0
    · have e1 : Int.tmod (wrap64 (Int.tdiv (t : Int) 4)) (l.length : Int) = ((t : Int) / 4) % (l.length : Int) := by
        rw [Int.tdiv_eq_ediv_of_nonneg (by omega), w64 (by omega) (by omega), Int.tmod_eq_emod_of_nonneg (by omega)]
      have e2 : 0 ≤ ((t : Int) / 4) % (l.length : Int) := Int.emod_nonneg _ (by omega)
      have e3 : ((t : Int) / 4) % (l.length : Int) < (l.length : Int) := Int.emod_lt_of_pos _ hz
      obtain ⟨b, hb, hb1, hb2⟩ := bound_ev (rd l (((t : Int) / 4) % (l.length : Int))) dr (hl _ (rd_mem l _ e2 e3)) h0 (by omega)
      obtain ⟨r, q, ⟨K, hK⟩, hr⟩ := ih (t + 1) (acc ++ [base + t + ahead / 1024]) (ahead + b) (by omega) (RdI_step dr base t acc ahead b hI hb1 hb2)
      refine ⟨r, q, ⟨K + 1, fun k hk => ?_⟩, hr⟩
      obtain ⟨m, rfl⟩ : ∃ m, k = m + 1 := ⟨k - 1, by omega⟩
      have hK' := hK m (by omega)
      dsimp only at hK'
      simp only [intervalmonref09_Readings.l0]
      rw [if_pos (by omega), floor_ev ahead (by omega) (by omega), Option.bind_some, if_pos (by omega), Option.bind_some, if_pos hz, if_neg (by omega), e1, if_pos e2, if_pos e3, hb, Option.bind_some, w64 (x := base + t) (by omega) (by omega), w64 (x := base + t + ahead / 1024) (by omega) (by omega), w64 (x := ahead + b) (by omega) (by omega), w64 (x := (t : Int) + 1) (by omega) (by omega)]
      exact hK'
    · obtain ⟨r, q, ⟨K, hK⟩, hr⟩ := ih (t + 1) (acc ++ [base + t + ahead / 1024]) (ahead + 0) (by omega) (RdI_step dr base t acc ahead 0 hI (by omega) (by omega))
      refine ⟨r, q, ⟨K + 1, fun k hk => ?_⟩, hr⟩
      obtain ⟨m, rfl⟩ : ∃ m, k = m + 1 := ⟨k - 1, by omega⟩
      have hK' := hK m (by omega)
      rw [Int.add_zero] at hK'
      dsimp only at hK'
      simp only [intervalmonref09_Readings.l0]
      rw [if_pos (by omega), floor_ev ahead (by omega) (by omega), Option.bind_some, if_pos (by omega), Option.bind_some, if_neg hz, w64 (x := base + t) (by omega) (by omega), w64 (x := base + t + ahead / 1024) (by omega) (by omega), w64 (x := (t : Int) + 1) (by omega) (by omega)]
      exact hK'
/-- What is known of readings. -/
def Good (dr : Int) (r : List Int) : Prop := r.length = 40 ∧ (∀ i : Nat, i < 40 → -2000 ≤ r.getD i 0 ∧ r.getD i 0 ≤ 2000) ∧
  ∀ i j : Nat, i < 40 → j < 40 → (r.getD i 0 - i) - (r.getD j 0 - j) ≤ slk dr ((i : Int) - j) ∧ (r.getD j 0 - j) - (r.getD i 0 - i) ≤ slk dr ((i : Int) - j)
theorem good_of (dr base : Int) (r : List Int) (q : Int) (h0 : 0 ≤ dr) (h1 : dr ≤ 512) (b0 : -1000 ≤ base) (b1 : base ≤ 1000) (h : RdI dr base 40 r q) : Good dr r := by
  obtain ⟨hl, A, a0, _, hc, hv⟩ := h
  have key : ∀ i j : Nat, i ≤ j → j < 40 → (r.getD i 0 - i) - (r.getD j 0 - j) ≤ slk dr ((j : Int) - i) ∧ (r.getD j 0 - j) - (r.getD i 0 - i) ≤ slk dr ((j : Int) - i) := by
    intro i j hij hj
    have z := hc i j hij (by omega)
    rw [hv i (by omega), hv j (by omega), slk_pos _ _ (by omega)]
    rw [show dr * ((j : Int) - i) = ((j : Int) - i) * dr from Int.mul_comm _ _] at z
    generalize ((j : Int) - i) * dr = w at *
    omega
  refine ⟨hl, fun i hi => ?_, fun i j hi hj => ?_⟩
  · have z := hc 0 i (by omega) (by omega)
    rw [a0] at z
    have e : dr * ((i : Int) - ((0 : Nat) : Int)) ≤ 512 * 40 := Int.mul_le_mul h1 (by omega) (by omega) (by omega)
    rw [hv i hi]; omega
  · rcases Nat.le_total i j with h | h
    · have := key i j h hj
      rw [← slk_neg, show -((j : Int) - i) = (i : Int) - j by omega] at this
      exact this
    · have := key j i h hi
      exact ⟨this.2, this.1⟩
/-- What is known of an exchange. -/
def Exch (r : List Int) (x : S39) : Prop := ∃ t : Nat, t < 40 ∧ 0 ≤ x.f0 ∧ x.f0 ≤ t ∧ (t : Int) ≤ x.f1 ∧ x.f1 ≤ 44 ∧ x.f2 = r.getD t 0
theorem rd_get (r : List Int) (i : Int) (h : 0 ≤ i) : rd r i = r.getD i.toNat 0 := rfl
theorem exch_loop (r : List Int) (hr : r.length = 40) (l : List Int) (hl : ∀ x ∈ l, inI x) (hlen : (l.length : Int) ≤ 140737488351232) : ∀ (d : Nat) (i : Int) (out : List S39), 0 ≤ i → (l.length : Int) + 3 - i ≤ d → i ≤ l.length + 3 → out.length ≤ 16 → (∀ x ∈ out, Exch r x) →
    ∃ e, Ev (fun k => intervalmonref09_Exchanges.l0 k r l out i) e ∧ 1 ≤ e.length ∧ e.length ≤ 16 ∧ ∀ x ∈ e, Exch r x := by
  intro d
  induction d with
  | zero =>
    intro i out h0 h1 h2 h3 h4
    have stop : ∀ k, intervalmonref09_Exchanges.l0 (k + 1 + 1) r l out i = if (out.length : Int) = 0 then (if 0 < (r.length : Int) then (if out.length < 5864062014805 then (some (out ++ [(⟨0, 0, rd r 0⟩ : S39)])) else none) else none) else some out := by
      intro k
      simp only [intervalmonref09_Exchanges.l0, intervalmonref09_Exchanges.j1]
      rw [if_neg (by rw [w64 (by omega) (by omega)]; omega), if_neg (by simp)]
    by_cases hz : (out.length : Int) = 0
    · refine ⟨out ++ [(⟨0, 0, rd r 0⟩ : S39)], ⟨2, fun k hk => ?_⟩, by simp, by simp; omega, ?_⟩
      · obtain ⟨m, rfl⟩ : ∃ m, k = m + 1 + 1 := ⟨k - 2, by omega⟩
        dsimp only
        rw [stop, if_pos hz, if_pos (by omega), if_pos (by omega)]
      · intro x hx
        rcases List.mem_append.1 hx with hx | hx
        · exact h4 x hx
        · obtain rfl := List.mem_singleton.1 hx
          exact ⟨0, by omega, by simp, by simp, by simp, by simp, rfl⟩
    · refine ⟨out, ⟨2, fun k hk => ?_⟩, by omega, h3, h4⟩
      obtain ⟨m, rfl⟩ : ∃ m, k = m + 1 + 1 := ⟨k - 2, by omega⟩
      dsimp only
      rw [stop, if_neg hz]
  | succ d ih =>
    intro i out h0 h1 h2 h3 h4
    by_cases hgo : i + 2 < (l.length : Int) ∧ (out.length : Int) < 16
    · obtain ⟨g1, g2⟩ := hgo
      have a1 := around_ev (rd l i) (r.length : Int) (hl _ (rd_mem l i h0 (by omega))) (by omega)
      have a2 := around_ev (rd l (i + 1)) 5 (hl _ (rd_mem l (i + 1) (by omega) (by omega))) (by omega)
      have a3 := around_ev (rd l (i + 2)) 5 (hl _ (rd_mem l (i + 2) (by omega) (by omega))) (by omega)
      have b1 := arV_bd (rd l i) (r.length : Int) (by omega)
      have b2 := arV_bd (rd l (i + 1)) 5 (by omega)
      have b3 := arV_bd (rd l (i + 2)) 5 (by omega)
      generalize arV (rd l i) (r.length : Int) = t at *
      generalize arV (rd l (i + 1)) 5 = u at *
      generalize arV (rd l (i + 2)) 5 = v at *
      obtain ⟨e, ⟨K, hK⟩, e1, e2, e3⟩ := ih (i + 3) (out ++ [(⟨mx 0 (t - u), t + v, rd r t⟩ : S39)]) (by omega) (by omega) (by omega) (by simp; omega) (by
        intro x hx
        rcases List.mem_append.1 hx with hx | hx
        · exact h4 x hx
        · obtain rfl := List.mem_singleton.1 hx
          rw [mxmax]
          exact ⟨t.toNat, by omega, by dsimp only; omega, by dsimp only; omega, by dsimp only; omega, by dsimp only; omega, rfl⟩)
      refine ⟨e, ⟨K + 2, fun k hk => ?_⟩, e1, e2, e3⟩
      obtain ⟨m, rfl⟩ : ∃ m, k = m + 1 + 1 := ⟨k - 2, by omega⟩
      have hK' := hK m (by omega)
      dsimp only at hK'
      simp only [intervalmonref09_Exchanges.l0, intervalmonref09_Exchanges.j1]
      rw [w64 (x := i + 2) (by omega) (by omega), w64 (x := i + 1) (by omega) (by omega), w64 (x := i + 3) (by omega) (by omega), if_pos g1, if_pos (by simp; omega), if_pos h0, if_pos (by omega), a1, Option.bind_some, if_pos (by omega), if_pos (by omega), a2, Option.bind_some, if_pos (by omega), if_pos (by omega), a3, Option.bind_some, if_pos (by omega), if_pos (by omega), if_pos (by omega), w64 (x := t - u) (by omega) (by omega), w64 (x := t + v) (by omega) (by omega)]
      exact hK'
    · have stop : ∀ k, intervalmonref09_Exchanges.l0 (k + 1 + 1) r l out i = if (out.length : Int) = 0 then (if 0 < (r.length : Int) then (if out.length < 5864062014805 then (some (out ++ [(⟨0, 0, rd r 0⟩ : S39)])) else none) else none) else some out := by
        intro k
        simp only [intervalmonref09_Exchanges.l0, intervalmonref09_Exchanges.j1]
        rw [w64 (x := i + 2) (by omega) (by omega)]
        by_cases g1 : i + 2 < (l.length : Int)
        · rw [if_pos g1, if_neg (by simp; omega)]
        · rw [if_neg g1, if_neg (by simp)]
      by_cases hz : (out.length : Int) = 0
      · refine ⟨out ++ [(⟨0, 0, rd r 0⟩ : S39)], ⟨2, fun k hk => ?_⟩, by simp, by simp; omega, ?_⟩
        · obtain ⟨m, rfl⟩ : ∃ m, k = m + 1 + 1 := ⟨k - 2, by omega⟩
          dsimp only
          rw [stop, if_pos hz, if_pos (by omega), if_pos (by omega)]
        · intro x hx
          rcases List.mem_append.1 hx with hx | hx
          · exact h4 x hx
          · obtain rfl := List.mem_singleton.1 hx
            exact ⟨0, by omega, by simp, by simp, by simp, by simp, rfl⟩
      · refine ⟨out, ⟨2, fun k hk => ?_⟩, by omega, h3, h4⟩
        obtain ⟨m, rfl⟩ : ∃ m, k = m + 1 + 1 := ⟨k - 2, by omega⟩
        dsimp only
        rw [stop, if_neg hz]
theorem clockOf_ev (l m : List Int) (hl : ∀ x ∈ l, inI x) (hm : ∀ x ∈ m, inI x) (hll : (l.length : Int) ≤ 140737488351232) (hml : (m.length : Int) ≤ 140737488351232) :
    ∃ dr r e, Ev (fun k => intervalmonlaw09_clockOf.f k l m) (dr, r, e) ∧ 0 ≤ dr ∧ dr ≤ 512 ∧ Good dr r ∧ 1 ≤ e.length ∧ e.length ≤ 16 ∧ ∀ x ∈ e, Exch r x := by
  obtain ⟨dr, hdr, d0, d1⟩ := pick_ev l 0 513 hl (by omega) (by omega)
  obtain ⟨b, hb, b0, b1⟩ := pick_ev l 1 2001 hl (by omega) (by omega)
  obtain ⟨r, q, hr, hI⟩ := readings_loop dr (b - 1000) l hl (by omega) d0 (by omega) (by omega) (by omega) 40 0 [] 0 (by omega) ⟨rfl, fun _ => 0, rfl, rfl, fun i j hij _ => by
    have : 0 ≤ dr * ((j : Int) - i) := Int.mul_nonneg d0 (by omega)
    dsimp only; omega, fun i hi => absurd hi (by omega)⟩
  have hG := good_of dr (b - 1000) r q d0 (by omega) (by omega) (by omega) hI
  obtain ⟨e, he, e1, e2, e3⟩ := exch_loop r hG.1 m hm hml (m.length + 3) 0 [] (by omega) (by omega) (by omega) (by simp) (by simp)
  refine ⟨dr, r, e, ?_, d0, by omega, hG, e1, e2, e3⟩
  unfold intervalmonlaw09_clockOf.f
  rw [hdr, hb]
  simp only [Option.bind_some]
  rw [w64 (x := b - 1000) (by omega) (by omega)]
  refine Ev.bind (a := r) ?_ (Ev.bind (a := e) ?_ (Ev.now _))
  · unfold intervalmonref09_Readings.f
    exact hr
  · unfold intervalmonref09_Exchanges.f
    exact he
theorem exch_vld (dr : Int) (r : List Int) (e : List S39) (d0 : 0 ≤ dr) (d1 : dr ≤ 512) (hG : Good dr r) (e1 : 1 ≤ e.length) (e2 : e.length ≤ 16) (e3 : ∀ x ∈ e, Exch r x) : vld dr e = true := by
  rw [vld_iff]
  refine ⟨d0, d1, e1, e2, fun x hx => ?_⟩
  obtain ⟨t, h0, h1, h2, h3, h4, h5⟩ := e3 x hx
  have := hG.2.1 t h0
  rw [okx_iff]
  omega
/-! what the results mean -/
theorem tfold_iff (a d t : Int) : ∀ (l : List S39) (lo hi : Int), ((tfold a d l lo hi).2.2 = 0 ∧ (tfold a d l lo hi).1 ≤ t ∧ t ≤ (tfold a d l lo hi).2.1) ↔
    lo ≤ t ∧ t ≤ hi ∧ ∀ x ∈ l, x.f0 + (distV a (d - x.f2)).1 ≤ t ∧ t ≤ x.f1 + (distV a (d - x.f2)).2 := by
  intro l
  induction l with
  | nil =>
    intro lo hi
    simp only [tfold, List.not_mem_nil, false_implies, implies_true, and_true]
    by_cases h : lo > hi
    · rw [if_pos h]; simp; omega
    · rw [if_neg h]; simp
  | cons x l ih =>
    intro lo hi
    simp only [tfold]
    rw [ih]
    simp only [List.forall_mem_cons]
    constructor
    · rintro ⟨h1, h2, h3⟩; exact ⟨by omega, by omega, ⟨by omega, by omega⟩, h3⟩
    · rintro ⟨h1, h2, ⟨h3, h4⟩, h5⟩; exact ⟨by omega, by omega, h5⟩
theorem ofold_iff (a t v : Int) : ∀ (l : List S39) (lo hi : Int), ((ofold a t l lo hi).2.2 = 0 ∧ (ofold a t l lo hi).1 ≤ v ∧ v ≤ (ofold a t l lo hi).2.1) ↔
    lo ≤ v ∧ v ≤ hi ∧ ∀ x ∈ l, x.f2 - x.f1 - slk a (t - x.f1) ≤ v ∧ v ≤ x.f2 - x.f0 + slk a (t - x.f0) := by
  intro l
  induction l with
  | nil =>
    intro lo hi
    simp only [ofold, List.not_mem_nil, false_implies, implies_true, and_true]
    by_cases h : lo > hi
    · rw [if_pos h]; simp; omega
    · rw [if_neg h]; simp
  | cons x l ih =>
    intro lo hi
    simp only [ofold]
    rw [ih]
    simp only [List.forall_mem_cons]
    constructor
    · rintro ⟨h1, h2, h3⟩; exact ⟨by omega, by omega, ⟨by omega, by omega⟩, h3⟩
    · rintro ⟨h1, h2, ⟨h3, h4⟩, h5⟩; exact ⟨by omega, by omega, h5⟩
theorem slk_mono (a n m : Int) (h0 : 0 ≤ a) (hn : 0 ≤ n) (hm : n ≤ m) : slk a n ≤ slk a m := by
  rw [slk_pos _ _ hn, slk_pos _ _ (by omega)]
  have := Int.mul_le_mul_of_nonneg_right hm h0
  generalize n * a = p at *
  generalize m * a = q at *
  omega
theorem slk_lip (a n m : Int) (h0 : 0 ≤ a) (h1 : a ≤ 512) : slk a n ≤ slk a m + (if n - m < 0 then m - n else n - m) := by
  have key : ∀ n m : Int, 0 ≤ n → 0 ≤ m → slk a n ≤ slk a m + (if n - m < 0 then m - n else n - m) := by
    intro n m hn hm
    rw [slk_pos _ _ hn, slk_pos _ _ hm]
    by_cases h : n - m < 0
    · rw [if_pos h]
      have := Int.mul_le_mul_of_nonneg_right (show n ≤ m by omega) h0
      generalize n * a = p at *
      generalize m * a = q at *
      omega
    · rw [if_neg h]
      have e1 : n * a = m * a + (n - m) * a := by rw [Int.sub_mul]; omega
      have e2 : (n - m) * a ≤ (n - m) * 512 := Int.mul_le_mul_of_nonneg_left h1 (by omega)
      rw [e1]
      generalize (n - m) * a = p at *
      generalize m * a = q at *
      omega
  have hn : slk a n = slk a (if n < 0 then -n else n) := by
    by_cases h : n < 0
    · rw [if_pos h, slk_neg]
    · rw [if_neg h]
  have hm : slk a m = slk a (if m < 0 then -m else m) := by
    by_cases h : m < 0
    · rw [if_pos h, slk_neg]
    · rw [if_neg h]
  rw [hn, hm]
  have := key (if n < 0 then -n else n) (if m < 0 then -m else m) (by split <;> omega) (by split <;> omega)
  revert this
  generalize slk a (if n < 0 then -n else n) = p
  generalize slk a (if m < 0 then -m else m) = q
  intro this
  split at this <;> split at this <;> split at this <;> split <;> omega
/-- At each tick the reading of the clock (beyond the last one, as if it went on at its rate) agrees with each exchange. -/
theorem exch_at (dr : Int) (r : List Int) (d0 : 0 ≤ dr) (d1 : dr ≤ 512) (hG : Good dr r) (x : S39) (hx : Exch r x) (t : Int) (u : Nat) (hu : u < 40) (ht : (u : Int) = t ∨ (u = 39 ∧ 39 ≤ t)) :
    x.f2 - x.f1 - slk dr (t - x.f1) ≤ r.getD u 0 - u ∧ r.getD u 0 - u ≤ x.f2 - x.f0 + slk dr (t - x.f0) := by
  obtain ⟨s, hs, h1, h2, h3, h4, h5⟩ := hx
  have g := hG.2.2 u s hu hs
  rw [← h5] at g
  have e : slk dr ((u : Int) - s) ≤ slk dr (t - s) := by
    rcases ht with ht | ⟨rfl, ht⟩
    · rw [ht]; exact Int.le_refl _
    · exact slk_mono dr _ _ d0 (by omega) (by omega)
  have a1 := slk_lip dr (t - s) (t - x.f1) d0 d1
  have a2 := slk_lip dr (t - s) (t - x.f0) d0 d1
  split at a1 <;> split at a2 <;> omega
theorem off_has (dr : Int) (r : List Int) (e : List S39) (d0 : 0 ≤ dr) (d1 : dr ≤ 512) (hG : Good dr r) (hv : vld dr e = true) (he : ∀ x ∈ e, Exch r x) (t : Int) (h0 : 0 ≤ t) (h1 : t ≤ 60) (u : Nat) (hu : u < 40) (ht : (u : Int) = t ∨ (u = 39 ∧ 39 ≤ t)) :
    (offV dr t e).2.2 = 0 ∧ (offV dr t e).1 ≤ r.getD u 0 - u ∧ r.getD u 0 - u ≤ (offV dr t e).2.1 := by
  have e1 : offV dr t e = ofold dr t e (-1099511627776) 1099511627776 := by unfold offV; rw [if_pos ⟨hv, h0, by omega⟩]
  have hb := hG.2.1 u hu
  rw [e1, ofold_iff]
  exact ⟨by omega, by omega, fun x hx => exch_at dr r d0 d1 hG x (he x hx) t u hu ht⟩
/-- The tick is within Ticks of the reading exactly if the reading minus the tick is within Offset. -/
theorem dual (dr d t : Int) (e : List S39) (d0 : 0 ≤ dr) (d1 : dr ≤ 512) (hv : vld dr e = true) (h0 : 0 ≤ t) (h1 : t ≤ 60) (hd0 : -100000 ≤ d) (hd1 : d ≤ 100000) :
    ((ticksV dr d e).2.2 = 0 ∧ (ticksV dr d e).1 ≤ t ∧ t ≤ (ticksV dr d e).2.1) ↔ ((offV dr t e).2.2 = 0 ∧ (offV dr t e).1 ≤ d - t ∧ d - t ≤ (offV dr t e).2.1) := by
  have e1 : offV dr t e = ofold dr t e (-1099511627776) 1099511627776 := by unfold offV; rw [if_pos ⟨hv, h0, by omega⟩]
  have e2 : ticksV dr d e = tfold dr d e 0 1048576 := by unfold ticksV; rw [if_pos hv, if_neg (by omega)]
  rw [e1, e2, ofold_iff, tfold_iff]
  have key : ∀ x : S39, (x.f0 + (distV dr (d - x.f2)).1 ≤ t ∧ t ≤ x.f1 + (distV dr (d - x.f2)).2) ↔ (x.f2 - x.f1 - slk dr (t - x.f1) ≤ d - t ∧ d - t ≤ x.f2 - x.f0 + slk dr (t - x.f0)) := by
    intro x
    have a := dist_lo dr (d - x.f2) (t - x.f0) d0 d1
    have b := dist_hi dr (d - x.f2) (t - x.f1) d0 d1
    constructor
    · rintro ⟨h2, h3⟩
      have a' := a.1 (by omega)
      have b' := b.1 (by omega)
      omega
    · rintro ⟨h2, h3⟩
      have a' := a.2 (by omega)
      have b' := b.2 (by omega)
      omega
  constructor
  · rintro ⟨_, _, h⟩; exact ⟨by omega, by omega, fun x hx => (key x).1 (h x hx)⟩
  · rintro ⟨_, _, h⟩; exact ⟨by omega, by omega, fun x hx => (key x).2 (h x hx)⟩
end Go.Proofs.Ythmbpipeogdejaa.Clk

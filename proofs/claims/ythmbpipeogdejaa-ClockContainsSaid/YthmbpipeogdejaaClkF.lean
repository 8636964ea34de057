/- Clock: what Agrees computes. -/
import Derived.Test.YthmbpipeogdejaaClkC
import Derived.Test.YthmbpipeogdejaaPClkx8
namespace Go.Proofs.Ythmbpipeogdejaa.Clk
set_option linter.unusedVariables false
open Go.RowKit Go.Proofs.Ythmbpipeogdejaa.PClk Go.Proofs.YthmbpipeogdejaaW.PrintWords Go.Proofs.YthmbpipeogdejaaW.PrintLast Go.Proofs.YthmbpipeogdejaaW.PrintMore
/-- A loop's answer that is told by a proposition. -/
def EvP (g : Nat → Option Bool) (p : Prop) : Prop := ∃ b, Ev g b ∧ (b = true ↔ p)
theorem EvP.congr {g : Nat → Option Bool} {p q : Prop} (h : EvP g p) (e : p ↔ q) : EvP g q := by
  obtain ⟨b, hb, hp⟩ := h
  exact ⟨b, hb, hp.trans e⟩
def inRng (v : Int) : Prop := -1099511627776 ≤ v ∧ v ≤ 1099511627776
def pairOk (dr : Int) (r : List Int) (i k : Nat) : Prop :=
  (r.getD i 0 - i) - (r.getD k 0 - k) ≤ slk dr ((i : Int) - k) ∧ (r.getD k 0 - k) - (r.getD i 0 - i) ≤ slk dr ((i : Int) - k)
def goodAt (dr : Int) (r : List Int) (i : Nat) : Prop := inRng (r.getD i 0) ∧ ∀ k, k < i → pairOk dr r i k
def shownP (x : S39) (first : Int) (r : List Int) : Prop :=
  max (x.f0 - first) 0 > min (x.f1 - first) ((r.length : Int) - 1) ∨ ∃ i : Nat, max (x.f0 - first) 0 ≤ i ∧ (i : Int) ≤ min (x.f1 - first) ((r.length : Int) - 1) ∧ r.getD i 0 = x.f2
def agreesP (dr : Int) (l : List S39) (first : Int) (r : List Int) : Prop :=
  vld dr l = true ∧ 0 ≤ first ∧ first ≤ 1048576 ∧ (r.length : Int) ≤ 1048577 - first ∧ (∀ i, i < r.length → goodAt dr r i) ∧ ∀ x ∈ l, shownP x first r
theorem shown_loop (r : List Int) (frm tt : Int) (hf : 0 ≤ frm) (ht : tt < r.length) (hr : (r.length : Int) ≤ 1000000) (f0 f1 f2 : Int) : ∀ (d : Nat) (i : Int), tt + 1 - i = d → 0 ≤ i →
    EvP (fun k => clock_shown.l0 k r frm tt i f0 f1 f2) ((∃ j : Nat, i ≤ j ∧ (j : Int) ≤ tt ∧ r.getD j 0 = f2) ∨ frm > tt) := by
  intro d
  induction d with
  | zero =>
    intro i hd hi
    refine ⟨decide (frm > tt), ⟨1, fun k hk => ?_⟩, ?_⟩
    · obtain ⟨m, rfl⟩ : ∃ m, k = m + 1 := ⟨k - 1, by omega⟩
      simp only [clock_shown.l0]
      rw [if_neg (by omega)]
    · rw [decide_eq_true_eq]
      constructor
      · exact fun h => .inr h
      · rintro (⟨j, h1, h2, _⟩ | h)
        · omega
        · exact h
  | succ d ih =>
    intro i hd hi
    by_cases hq : r.getD i.toNat 0 = f2
    · refine ⟨true, ⟨1, fun k hk => ?_⟩, ?_⟩
      · obtain ⟨m, rfl⟩ : ∃ m, k = m + 1 := ⟨k - 1, by omega⟩
        simp only [clock_shown.l0]
        rw [if_pos (by omega), if_pos hi, if_pos (by omega), if_pos (show rd r i = f2 from hq)]
      · simp only [true_iff]
        exact .inl ⟨i.toNat, by omega, by omega, hq⟩
    · obtain ⟨b, ⟨K, hK⟩, hb⟩ := ih (i + 1) (by omega) (by omega)
      refine ⟨b, ⟨K + 1, fun k hk => ?_⟩, hb.trans ?_⟩
      · obtain ⟨m, rfl⟩ : ∃ m, k = m + 1 := ⟨k - 1, by omega⟩
        have hK' := hK m (by omega)
        dsimp only at hK'
        simp only [clock_shown.l0]
        rw [if_pos (by omega), if_pos hi, if_pos (by omega), if_neg (show ¬ rd r i = f2 from hq), w64 (by omega) (by omega)]
        exact hK'
      · constructor
        · rintro (⟨j, h1, h2, h3⟩ | h)
          · exact .inl ⟨j, by omega, h2, h3⟩
          · exact .inr h
        · rintro (⟨j, h1, h2, h3⟩ | h)
          · refine .inl ⟨j, ?_, h2, h3⟩
            rcases Int.lt_or_le i j with h | h
            · omega
            · exact absurd (by rw [show i.toNat = j by omega]; exact h3) hq
          · exact .inr h
theorem shown_ev (x : S39) (hx : okx x = true) (first : Int) (r : List Int) (h0 : 0 ≤ first) (h1 : first ≤ 1048576) (hr : (r.length : Int) ≤ 1000000) : EvP (fun k => clock_shown.f k x.f0 x.f1 x.f2 first r) (shownP x first r) := by
  have hx := (okx_iff x).1 hx
  unfold clock_shown.f shownP
  rw [w64 (x := x.f0 - first) (by omega) (by omega), w64 (x := x.f1 - first) (by omega) (by omega), w64 (x := (r.length : Int) - 1) (by omega) (by omega), mxmax, mnmin]
  by_cases hc : max (x.f0 - first) 0 ≤ min (x.f1 - first) ((r.length : Int) - 1)
  · refine (shown_loop r (max (x.f0 - first) 0) (min (x.f1 - first) ((r.length : Int) - 1)) (by omega) (by omega) hr x.f0 x.f1 x.f2 (min (x.f1 - first) ((r.length : Int) - 1) + 1 - max (x.f0 - first) 0).toNat (max (x.f0 - first) 0) (by omega) (by omega)).congr ?_
    exact Or.comm
  · refine ⟨true, ⟨1, fun k hk => ?_⟩, ?_⟩
    · obtain ⟨m, rfl⟩ : ∃ m, k = m + 1 := ⟨k - 1, by omega⟩
      simp only [clock_shown.l0]
      rw [if_neg hc, decide_eq_true (by omega)]
    · simp only [true_iff]; exact .inl (by omega)
theorem shown_all (first : Int) (r : List Int) (n : Int) (h0 : 0 ≤ first) (h1 : first ≤ 1048576) (hr : (r.length : Int) ≤ 1000000) : ∀ (suf pre : List S39), (pre.length : Int) + suf.length ≤ 1000000 → n = (pre.length : Int) + suf.length → (∀ x ∈ suf, okx x = true) →
    EvP (fun k => clock_Agrees.l1 k first r (pre ++ suf) n (pre.length : Int)) (∀ x ∈ suf, shownP x first r) := by
  intro suf
  induction suf with
  | nil =>
    intro pre hb hn _
    refine ⟨true, ⟨1, fun k hk => ?_⟩, by simp⟩
    obtain ⟨m, rfl⟩ : ∃ m, k = m + 1 := ⟨k - 1, by omega⟩
    simp only [clock_Agrees.l1]
    rw [if_neg (by simp at hn; omega)]
  | cons x suf ih =>
    intro pre hb hn hok
    simp only [List.length_cons] at hb hn
    obtain ⟨c, ⟨K1, hK1⟩, hc⟩ := shown_ev x (hok x (by simp)) first r h0 h1 hr
    cases c with
    | false =>
      refine ⟨false, ⟨K1 + 1, fun k hk => ?_⟩, ?_⟩
      · obtain ⟨m, rfl⟩ : ∃ m, k = m + 1 := ⟨k - 1, by omega⟩
        have hK' := hK1 m (by omega)
        dsimp only at hK'
        simp only [clock_Agrees.l1]
        rw [rd_at, lenc, if_pos (by omega), if_pos (by omega), if_pos (by omega), hK', Option.bind_some, if_neg (by simp)]
      · constructor
        · intro h; cases h
        · intro h; exact hc.2 (h x (by simp))
    | true =>
      obtain ⟨b, ⟨K, hK⟩, hb2⟩ := ih (pre ++ [x]) (by rw [snocl]; omega) (by rw [snocl]; omega) (fun y hy => hok y (by simp [hy]))
      refine ⟨b, ⟨K + K1 + 1, fun k hk => ?_⟩, ?_⟩
      · obtain ⟨m, rfl⟩ : ∃ m, k = m + 1 := ⟨k - 1, by omega⟩
        have hK1' := hK1 m (by omega)
        dsimp only at hK1'
        have hK' := hK m (by omega)
        dsimp only at hK'
        rw [← snoc, snocl] at hK'
        simp only [clock_Agrees.l1]
        rw [rd_at, lenc, if_pos (by omega), if_pos (by omega), if_pos (by omega), hK1', Option.bind_some, if_pos rfl, w64 (by omega) (by omega)]
        exact hK'
      · rw [hb2]
        simp only [List.forall_mem_cons]
        exact ⟨fun h => ⟨hc.1 rfl, h⟩, fun h => h.2⟩
def Fk (dr : Int) (r : List Int) (k : Nat) : Int := 1024 * (r.getD k 0 - k) - dr * k
def Sk (dr : Int) (r : List Int) (k : Nat) : Int := 1024 * (r.getD k 0 - k) + dr * k
theorem pair_iff (dr : Int) (r : List Int) (i k : Nat) (hk : k < i) : pairOk dr r i k ↔ ¬ (Fk dr r i ≥ Fk dr r k + 1024) ∧ ¬ (Sk dr r i ≤ Sk dr r k - 1024) := by
  unfold pairOk Fk Sk
  rw [slk_pos _ _ (by omega), Int.sub_mul]
  rw [Int.mul_comm (i : Int) dr, Int.mul_comm (k : Int) dr]
  generalize dr * (i : Int) = p
  generalize dr * (k : Int) = q
  omega
theorem prog_loop (dr first : Int) (l : List S39) (r : List Int) (d0 : 0 ≤ dr) (d1 : dr ≤ 512) (h0 : 0 ≤ first) (h1 : first ≤ 1048576) (hr : r.length ≤ 1000) (hl : l.length ≤ 1000) (hok : ∀ x ∈ l, okx x = true) : ∀ (d i : Nat) (fast slow : Int), i + d = r.length →
    (∀ k, k < i → fast ≤ Fk dr r k) → (fast = 4503599627370496 ∨ ∃ k, k < i ∧ fast = Fk dr r k) → (∀ k, k < i → Sk dr r k ≤ slow) → (slow = -4503599627370496 ∨ ∃ k, k < i ∧ slow = Sk dr r k) →
    (∀ k, k < i → inRng (r.getD k 0)) →
    EvP (fun k => clock_Agrees.l0 k dr l first r fast slow (r.length : Int) (i : Int)) ((∀ j, i ≤ j → j < r.length → goodAt dr r j) ∧ ∀ x ∈ l, shownP x first r) := by
  intro d
  induction d with
  | zero =>
    intro i fast slow hd _ _ _ _ _
    obtain ⟨b, ⟨K, hK⟩, hb⟩ := shown_all first r (l.length : Int) h0 h1 (by omega) l [] (by simp; omega) (by simp) hok
    refine ⟨b, ⟨K + 1, fun k hk => ?_⟩, hb.trans ?_⟩
    · obtain ⟨m, rfl⟩ : ∃ m, k = m + 1 := ⟨k - 1, by omega⟩
      have hK' := hK m (by omega)
      simp only [List.nil_append, List.length_nil] at hK'
      simp only [clock_Agrees.l0]
      rw [if_neg (by omega)]
      exact hK'
    · exact ⟨fun h => ⟨fun j h1 h2 => absurd h2 (by omega), h⟩, fun h => h.2⟩
  | succ d ih =>
    intro i fast slow hd hf1 hf2 hs1 hs2 hin
    have bF : ∀ k, k < i → -1127000000000000 ≤ Fk dr r k ∧ Fk dr r k ≤ 1127000000000000 ∧ -1127000000000000 ≤ Sk dr r k ∧ Sk dr r k ≤ 1127000000000000 := by
      intro k hk
      have a := hin k hk
      unfold inRng at a
      have b : dr * (k : Int) ≤ 512 * 1000 := Int.mul_le_mul d1 (by omega) (by omega) (by omega)
      have c : 0 ≤ dr * (k : Int) := Int.mul_nonneg d0 (by omega)
      unfold Fk Sk
      omega
    have bf : -1127000000000000 ≤ fast ∧ fast ≤ 4503599627370496 := by
      rcases hf2 with h | ⟨k, hk, h⟩
      · omega
      · have := bF k hk; omega
    have bs : slow ≤ 1127000000000000 ∧ -4503599627370496 ≤ slow := by
      rcases hs2 with h | ⟨k, hk, h⟩
      · omega
      · have := bF k hk; omega
    by_cases hrng : inRng (r.getD i 0)
    · have hrng' := hrng
      unfold inRng at hrng'
      have b : dr * (i : Int) ≤ 512 * 1000 := Int.mul_le_mul d1 (by omega) (by omega) (by omega)
      have c : 0 ≤ dr * (i : Int) := Int.mul_nonneg d0 (by omega)
      have eF : Fk dr r i = 1024 * (r.getD i 0 - i) - dr * i := rfl
      have eS : Sk dr r i = 1024 * (r.getD i 0 - i) + dr * i := rfl
      have hrd : rd r (i : Int) = r.getD i 0 := by unfold rd; rw [Int.toNat_natCast]
      have step : ∀ k, clock_Agrees.l0 (k + 1 + 1) dr l first r fast slow (r.length : Int) (i : Int) = if Fk dr r i ≥ fast + 1024 then some false else if Sk dr r i ≤ slow - 1024 then some false else clock_Agrees.l0 k dr l first r (min fast (Fk dr r i)) (max slow (Sk dr r i)) (r.length : Int) ((i + 1 : Nat) : Int) := by
        intro k
        simp only [clock_Agrees.l0, clock_Agrees.j2]
        rw [if_pos (by omega), if_pos (by omega), if_pos (by omega), hrd, if_neg (by omega), if_neg (by rw [decide_eq_true_eq]; omega), if_pos (by omega), if_pos (by omega),
          w64 (x := r.getD i 0 - i) (by omega) (by omega), w64 (x := 1024 * (r.getD i 0 - i)) (by omega) (by omega), w64 (x := dr * i) (by omega) (by omega), w64 (x := 1024 * (r.getD i 0 - i) - dr * i) (by omega) (by omega), w64 (x := 1024 * (r.getD i 0 - i) + dr * i) (by omega) (by omega),
          w64 (x := fast + 1024) (by omega) (by omega), w64 (x := slow - 1024) (by omega) (by omega), w64 (x := (i : Int) + 1) (by omega) (by omega), mnmin, mxmax, ← eF, ← eS]
        rfl
      have hpairs : (∀ k, k < i → pairOk dr r i k) ↔ ¬ (Fk dr r i ≥ fast + 1024) ∧ ¬ (Sk dr r i ≤ slow - 1024) := by
        constructor
        · intro h
          refine ⟨fun hc => ?_, fun hc => ?_⟩
          · rcases hf2 with hq | ⟨k, hk, hq⟩
            · omega
            · have := (pair_iff dr r i k hk).1 (h k hk); omega
          · rcases hs2 with hq | ⟨k, hk, hq⟩
            · omega
            · have := (pair_iff dr r i k hk).1 (h k hk); omega
        · rintro ⟨ha, hb⟩ k hk
          rw [pair_iff dr r i k hk]
          have := hf1 k hk
          have := hs1 k hk
          omega
      by_cases hgo : ¬ (Fk dr r i ≥ fast + 1024) ∧ ¬ (Sk dr r i ≤ slow - 1024)
      · obtain ⟨b', ⟨K, hK⟩, hb⟩ := ih (i + 1) (min fast (Fk dr r i)) (max slow (Sk dr r i)) (by omega)
          (fun k hk => by
            rcases Nat.lt_or_ge k i with h | h
            · have := hf1 k h; omega
            · obtain rfl : k = i := by omega
              omega)
          (by
            by_cases h : fast ≤ Fk dr r i
            · rcases hf2 with hq | ⟨k, hk, hq⟩
              · exact .inl (by omega)
              · exact .inr ⟨k, by omega, by omega⟩
            · exact .inr ⟨i, by omega, by omega⟩)
          (fun k hk => by
            rcases Nat.lt_or_ge k i with h | h
            · have := hs1 k h; omega
            · obtain rfl : k = i := by omega
              omega)
          (by
            by_cases h : Sk dr r i ≤ slow
            · rcases hs2 with hq | ⟨k, hk, hq⟩
              · exact .inl (by omega)
              · exact .inr ⟨k, by omega, by omega⟩
            · exact .inr ⟨i, by omega, by omega⟩)
          (fun k hk => by
            rcases Nat.lt_or_ge k i with h | h
            · exact hin k h
            · obtain rfl : k = i := by omega
              exact hrng)
        refine ⟨b', ⟨K + 2, fun k hk => ?_⟩, hb.trans ?_⟩
        · obtain ⟨m, rfl⟩ : ∃ m, k = m + 1 + 1 := ⟨k - 2, by omega⟩
          have hK' := hK m (by omega)
          dsimp only at hK' ⊢
          rw [step, if_neg hgo.1, if_neg hgo.2]
          exact hK'
        · constructor
          · rintro ⟨h1, h2⟩
            refine ⟨fun j hj hj2 => ?_, h2⟩
            rcases Nat.lt_or_ge i j with h | h
            · exact h1 j (by omega) hj2
            · obtain rfl : j = i := by omega
              exact ⟨hrng, hpairs.2 hgo⟩
          · rintro ⟨h1, h2⟩
            exact ⟨fun j hj hj2 => h1 j (by omega) hj2, h2⟩
      · refine ⟨false, ⟨2, fun k hk => ?_⟩, ?_⟩
        · obtain ⟨m, rfl⟩ : ∃ m, k = m + 1 + 1 := ⟨k - 2, by omega⟩
          dsimp only
          rw [step]
          by_cases hx : Fk dr r i ≥ fast + 1024
          · rw [if_pos hx]
          · rw [if_neg hx, if_pos (by omega)]
        · constructor
          · intro h; cases h
          · rintro ⟨h, _⟩
            exact absurd (hpairs.1 (h i (Nat.le_refl _) (by omega)).2) hgo
    · refine ⟨false, ⟨2, fun k hk => ?_⟩, ?_⟩
      · obtain ⟨m, rfl⟩ : ∃ m, k = m + 1 + 1 := ⟨k - 2, by omega⟩
        have hrd : rd r (i : Int) = r.getD i 0 := by unfold rd; rw [Int.toNat_natCast]
        unfold inRng at hrng
        simp only [clock_Agrees.l0, clock_Agrees.j2]
        rw [if_pos (by omega), if_pos (by omega), if_pos (by omega), hrd]
        by_cases hx : r.getD i 0 < -1099511627776
        · rw [if_pos hx, if_pos trivial]
        · rw [if_neg hx, if_pos (by rw [decide_eq_true_eq]; omega)]
      · constructor
        · intro h; cases h
        · rintro ⟨h, _⟩
          exact absurd (h i (Nat.le_refl _) (by omega)).1 hrng
theorem agrees_ev (dr : Int) (l : List S39) (first : Int) (r : List Int) (hl : l.length ≤ 1000) (hr : r.length ≤ 1000) : EvP (fun k => clock_Agrees.f k dr l first r) (agreesP dr l first r) := by
  unfold clock_Agrees.f agreesP
  cases hv : vld dr l with
  | false =>
    refine ⟨false, ?_, by simp⟩
    have := agrees_no dr l first r (by omega) hv
    unfold clock_Agrees.f at this
    exact this
  | true =>
    have hv' := (vld_iff dr l).1 hv
    by_cases hg : 0 ≤ first ∧ first ≤ 1048576 ∧ (r.length : Int) ≤ 1048577 - first
    · obtain ⟨g0, g1, g2⟩ := hg
      obtain ⟨b, ⟨K, hK⟩, hb⟩ := prog_loop dr first l r hv'.1 hv'.2.1 g0 g1 hr hl hv'.2.2.2.2 r.length 0 4503599627370496 (-4503599627370496) (by omega) (fun k hk => absurd hk (by omega)) (.inl rfl) (fun k hk => absurd hk (by omega)) (.inl rfl) (fun k hk => absurd hk (by omega))
      refine ⟨b, ?_, hb.trans ?_⟩
      · refine Ev.bind (hv ▸ valid_ev dr l (by omega)) ⟨K + 1, fun k hk => ?_⟩
        obtain ⟨m, rfl⟩ : ∃ m, k = m + 1 := ⟨k - 1, by omega⟩
        have hK' := hK m (by omega)
        dsimp only at hK'
        simp only [if_true, clock_Agrees.j0]
        rw [if_neg (by omega), if_neg (by omega), w64 (x := 1048576 - first) (by omega) (by omega), w64 (x := 1048576 - first + 1) (by omega) (by omega), if_neg (by rw [decide_eq_true_eq]; omega)]
        exact hK'
      · constructor
        · rintro ⟨h1, h2⟩; exact ⟨rfl, g0, g1, g2, fun i hi => h1 i (by omega) hi, h2⟩
        · rintro ⟨_, _, _, _, h1, h2⟩; exact ⟨fun j _ hj => h1 j hj, h2⟩
    · refine ⟨false, ?_, ?_⟩
      · refine Ev.bind (hv ▸ valid_ev dr l (by omega)) ⟨1, fun k hk => ?_⟩
        obtain ⟨m, rfl⟩ : ∃ m, k = m + 1 := ⟨k - 1, by omega⟩
        simp only [if_true, clock_Agrees.j0]
        by_cases c1 : first < 0
        · rw [if_pos c1]
        · rw [if_neg c1]
          by_cases c2 : first > 1048576
          · rw [if_pos c2]
          · rw [if_neg c2, w64 (x := 1048576 - first) (by omega) (by omega), w64 (x := 1048576 - first + 1) (by omega) (by omega), if_pos (by rw [decide_eq_true_eq]; omega)]
      · constructor
        · intro h; cases h
        · rintro ⟨_, a, b, c, _⟩; exact absurd ⟨a, b, c⟩ hg
end Go.Proofs.Ythmbpipeogdejaa.Clk

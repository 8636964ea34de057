/- Clock: what the reference's Agrees computes: the same. -/
import Derived.Test.YthmbpipeogdejaaClkF
import Derived.Test.YthmbpipeogdejaaClkR
import Derived.Test.YthmbpipeogdejaaPClkx21
namespace Go.Proofs.Ythmbpipeogdejaa.Clk
set_option linter.unusedVariables false
open Go.RowKit Go.Proofs.Ythmbpipeogdejaa.PClk Go.Proofs.YthmbpipeogdejaaW.PrintWords Go.Proofs.YthmbpipeogdejaaW.PrintLast Go.Proofs.YthmbpipeogdejaaW.PrintMore
theorem refcan2 (a d n : Int) (h0 : 0 ≤ a) (h1 : a ≤ 512) (h2 : -8796093022208 ≤ n) (h3 : n ≤ 8796093022208) (h4 : -8796093022208 ≤ d) (h5 : d ≤ 8796093022208) :
    intervalmonref09_can.f a d n = some (decide (d - n ≤ slk a n ∧ n - d ≤ slk a n)) := by
  rw [refcan a d n h0 h1 h2 h3 h4 h5]
  congr 1
  rw [decide_eq_decide, dist_lo a d n h0 h1, dist_hi a d n h0 h1]
  omega
theorem ref_l3 (l : List S39) (first : Int) (r : List Int) (h0 : 0 ≤ first) (h1 : first ≤ 1048576) (hr : (r.length : Int) ≤ 1000) (hl : (l.length : Int) ≤ 1000) (n : Nat) (hn : n < l.length) (x : S39) (hx : rd_T39 l (n : Int) = x) (tt : Int) (htt : tt ≤ first + r.length - 1) (Q : Prop)
    (hQ : EvP (fun k => intervalmonref09_Agrees.l2 k l first r ((n : Int) + 1)) Q) : ∀ (d : Nat) (t : Int) (fd : Bool), tt + 1 - t = d → first ≤ t →
    EvP (fun k => intervalmonref09_Agrees.l3 k l first r (n : Int) tt fd t) ((fd = true ∨ ∃ u : Nat, t ≤ first + u ∧ first + u ≤ tt ∧ r.getD u 0 = x.f2) ∧ Q) := by
  have stop : ∀ (t : Int) (fd : Bool), tt < t → EvP (fun k => intervalmonref09_Agrees.l3 k l first r (n : Int) tt fd t) ((fd = true ∨ ∃ u : Nat, t ≤ first + u ∧ first + u ≤ tt ∧ r.getD u 0 = x.f2) ∧ Q) := by
    intro t fd ht
    have no : ¬ ∃ u : Nat, t ≤ first + u ∧ first + u ≤ tt ∧ r.getD u 0 = x.f2 := by rintro ⟨u, a, b, _⟩; omega
    cases fd with
    | false =>
      refine ⟨false, ⟨1, fun k hk => ?_⟩, ?_⟩
      · obtain ⟨m, rfl⟩ : ∃ m, k = m + 1 := ⟨k - 1, by omega⟩
        simp only [intervalmonref09_Agrees.l3]
        rw [if_neg (by omega), if_neg (by simp)]
      · constructor
        · intro h; cases h
        · rintro ⟨h | h, _⟩
          · cases h
          · exact absurd h no
    | true =>
      obtain ⟨b, ⟨K, hK⟩, hb⟩ := hQ
      refine ⟨b, ⟨K + 1, fun k hk => ?_⟩, ?_⟩
      · obtain ⟨m, rfl⟩ : ∃ m, k = m + 1 := ⟨k - 1, by omega⟩
        have hK' := hK m (by omega)
        dsimp only at hK'
        simp only [intervalmonref09_Agrees.l3]
        rw [if_neg (by omega), if_pos trivial, w64 (by omega) (by omega)]
        exact hK'
      · rw [hb]
        exact ⟨fun h => ⟨.inl rfl, h⟩, fun h => h.2⟩
  intro d
  induction d with
  | zero => intro t fd hd ht; exact stop t fd (by omega)
  | succ d ih =>
    intro t fd hd ht
    cases fd with
    | true =>
      obtain ⟨b, ⟨K, hK⟩, hb⟩ := ih (t + 1) true (by omega) (by omega)
      refine ⟨b, ⟨K + 1, fun k hk => ?_⟩, ?_⟩
      · obtain ⟨m, rfl⟩ : ∃ m, k = m + 1 := ⟨k - 1, by omega⟩
        have hK' := hK m (by omega)
        dsimp only at hK'
        simp only [intervalmonref09_Agrees.l3]
        rw [if_pos (by omega), if_pos trivial, w64 (by omega) (by omega)]
        exact hK'
      · rw [hb]
        exact ⟨fun h => ⟨.inl rfl, h.2⟩, fun h => ⟨.inl rfl, h.2⟩⟩
    | false =>
      obtain ⟨b, ⟨K, hK⟩, hb⟩ := ih (t + 1) (rd r (t - first) == x.f2) (by omega) (by omega)
      refine ⟨b, ⟨K + 1, fun k hk => ?_⟩, ?_⟩
      · obtain ⟨m, rfl⟩ : ∃ m, k = m + 1 := ⟨k - 1, by omega⟩
        have hK' := hK m (by omega)
        dsimp only at hK'
        simp only [intervalmonref09_Agrees.l3]
        rw [if_pos (by omega), if_neg (by simp), w64 (x := t - first) (by omega) (by omega), if_pos (by omega), if_pos (by omega), if_pos (by omega), if_pos (by omega), hx, w64 (x := t + 1) (by omega) (by omega)]
        exact hK'
      · rw [hb, beq_iff_eq]
        have e : rd r (t - first) = r.getD (t - first).toNat 0 := rfl
        constructor
        · rintro ⟨h | ⟨u, a, b, c⟩, hq⟩
          · exact ⟨.inr ⟨(t - first).toNat, by omega, by omega, by rw [← e]; exact h⟩, hq⟩
          · exact ⟨.inr ⟨u, by omega, b, c⟩, hq⟩
        · rintro ⟨h | ⟨u, a, b, c⟩, hq⟩
          · cases h
          · refine ⟨?_, hq⟩
            by_cases hu : first + (u : Int) = t
            · exact .inl (by rw [e, show (t - first).toNat = u by omega]; exact c)
            · exact .inr ⟨u, by omega, b, c⟩
theorem ref_l2 (first : Int) (r : List Int) (h0 : 0 ≤ first) (h1 : first ≤ 1048576) (hr : (r.length : Int) ≤ 1000) : ∀ (suf pre : List S39), (pre.length : Int) + suf.length ≤ 1000 → (∀ x ∈ suf, okx x = true) →
    EvP (fun k => intervalmonref09_Agrees.l2 k (pre ++ suf) first r (pre.length : Int)) (∀ x ∈ suf, shownP x first r) := by
  intro suf
  induction suf with
  | nil =>
    intro pre hb _
    refine ⟨true, ⟨1, fun k hk => ?_⟩, by simp⟩
    obtain ⟨m, rfl⟩ : ∃ m, k = m + 1 := ⟨k - 1, by omega⟩
    simp only [intervalmonref09_Agrees.l2]
    rw [if_neg (by simp)]
  | cons x suf ih =>
    intro pre hb hok
    simp only [List.length_cons] at hb
    have hx := (okx_iff x).1 (hok x (by simp))
    have hQ := ih (pre ++ [x]) (by rw [snocl]; omega) (fun y hy => hok y (by simp [hy]))
    rw [← snoc, snocl] at hQ
    have hlen := lenc pre suf x
    have hrd := rd_at pre suf x
    generalize hG : max x.f0 first = s
    generalize hT : min x.f1 (first + (r.length : Int) - 1) = tt
    have main : EvP (fun k => intervalmonref09_Agrees.l3 k (pre ++ x :: suf) first r (pre.length : Int) tt (decide (s > tt)) s) (((decide (s > tt)) = true ∨ ∃ u : Nat, s ≤ first + u ∧ first + u ≤ tt ∧ r.getD u 0 = x.f2) ∧ ∀ y ∈ suf, shownP y first r) := by
      by_cases hst : s ≤ tt
      · exact ref_l3 (pre ++ x :: suf) first r h0 h1 hr (by omega) pre.length (by simp) x hrd tt (by omega) _ hQ (tt + 1 - s).toNat s _ (by omega) (by omega)
      · rw [decide_eq_true (by omega)]
        obtain ⟨b, ⟨K, hK⟩, hb2⟩ := hQ
        refine ⟨b, ⟨K + 1, fun k hk => ?_⟩, ?_⟩
        · obtain ⟨m, rfl⟩ : ∃ m, k = m + 1 := ⟨k - 1, by omega⟩
          have hK' := hK m (by omega)
          dsimp only at hK'
          simp only [intervalmonref09_Agrees.l3]
          rw [if_neg (by omega), if_pos trivial, w64 (by omega) (by omega)]
          exact hK'
        · rw [hb2]
          exact ⟨fun h => ⟨.inl rfl, h⟩, fun h => h.2⟩
    obtain ⟨b, ⟨K, hK⟩, hb2⟩ := main
    refine ⟨b, ⟨K + 1, fun k hk => ?_⟩, hb2.trans ?_⟩
    · obtain ⟨m, rfl⟩ : ∃ m, k = m + 1 := ⟨k - 1, by omega⟩
      have hK' := hK m (by omega)
      dsimp only at hK'
      simp only [intervalmonref09_Agrees.l2]
      rw [hrd, hlen, if_pos (by omega), if_pos (by omega), w64 (x := first + (r.length : Int)) (by omega) (by omega), w64 (x := first + (r.length : Int) - 1) (by omega) (by omega), mxmax, mnmin, hG, hT]
      exact hK'
    · simp only [List.forall_mem_cons, decide_eq_true_eq]
      have e : (s > tt ∨ ∃ u : Nat, s ≤ first + u ∧ first + u ≤ tt ∧ r.getD u 0 = x.f2) ↔ shownP x first r := by
        unfold shownP
        constructor
        · rintro (h | ⟨u, a, b, c⟩)
          · exact .inl (by omega)
          · exact .inr ⟨u, by omega, by omega, c⟩
        · rintro (h | ⟨u, a, b, c⟩)
          · exact .inl (by omega)
          · exact .inr ⟨u, by omega, by omega, c⟩
      rw [e]
theorem ref_l1 (dr first : Int) (l : List S39) (r : List Int) (d0 : 0 ≤ dr) (d1 : dr ≤ 512) (hr : r.length ≤ 1000) (i : Nat) (hi : i < r.length) (hin : ∀ k, k ≤ i → inRng (r.getD k 0)) (Q : Prop)
    (hQ : EvP (fun k => intervalmonref09_Agrees.l0 k dr l first r ((i : Int) + 1)) Q) : ∀ (d j : Nat), j + d = i → EvP (fun k => intervalmonref09_Agrees.l1 k dr l first r (i : Int) (j : Int)) ((∀ k, j ≤ k → k < i → pairOk dr r i k) ∧ Q) := by
  intro d
  induction d with
  | zero =>
    intro j hj
    obtain ⟨b, ⟨K, hK⟩, hb⟩ := hQ
    refine ⟨b, ⟨K + 1, fun k hk => ?_⟩, ?_⟩
    · obtain ⟨m, rfl⟩ : ∃ m, k = m + 1 := ⟨k - 1, by omega⟩
      have hK' := hK m (by omega)
      dsimp only at hK'
      simp only [intervalmonref09_Agrees.l1]
      rw [if_neg (by omega), w64 (by omega) (by omega)]
      exact hK'
    · rw [hb]
      exact ⟨fun h => ⟨fun k a b => absurd b (by omega), h⟩, fun h => h.2⟩
  | succ d ih =>
    intro j hj
    have a1 := hin i (Nat.le_refl _)
    have a2 := hin j (by omega)
    unfold inRng at a1 a2
    have e1 : rd r (i : Int) = r.getD i 0 := by unfold rd; rw [Int.toNat_natCast]
    have e2 : rd r (j : Int) = r.getD j 0 := by unfold rd; rw [Int.toNat_natCast]
    have hcan := refcan2 dr (r.getD i 0 - r.getD j 0) ((i : Int) - j) d0 d1 (by omega) (by omega) (by omega) (by omega)
    have hp : pairOk dr r i j ↔ (r.getD i 0 - r.getD j 0 - ((i : Int) - j) ≤ slk dr ((i : Int) - j) ∧ (i : Int) - j - (r.getD i 0 - r.getD j 0) ≤ slk dr ((i : Int) - j)) := by
      unfold pairOk; omega
    by_cases hc : pairOk dr r i j
    · obtain ⟨b, ⟨K, hK⟩, hb⟩ := ih (j + 1) (by omega)
      refine ⟨b, ⟨K + 1, fun k hk => ?_⟩, hb.trans ?_⟩
      · obtain ⟨m, rfl⟩ : ∃ m, k = m + 1 := ⟨k - 1, by omega⟩
        have hK' := hK m (by omega)
        dsimp only at hK'
        simp only [intervalmonref09_Agrees.l1]
        rw [if_pos (by omega), if_pos (by omega), if_pos (by omega), if_pos (by omega), if_pos (by omega), e1, e2, w64 (x := r.getD i 0 - r.getD j 0) (by omega) (by omega), w64 (x := (i : Int) - j) (by omega) (by omega), hcan, Option.bind_some, if_pos (by rw [decide_eq_true_eq]; exact hp.1 hc), w64 (by omega) (by omega)]
        exact hK'
      · constructor
        · rintro ⟨h, q⟩
          refine ⟨fun k a c => ?_, q⟩
          rcases Nat.lt_or_ge j k with hjk | hjk
          · exact h k (by omega) c
          · obtain rfl : k = j := by omega
            exact hc
        · rintro ⟨h, q⟩; exact ⟨fun k a c => h k (by omega) c, q⟩
    · refine ⟨false, ⟨1, fun k hk => ?_⟩, ?_⟩
      · obtain ⟨m, rfl⟩ : ∃ m, k = m + 1 := ⟨k - 1, by omega⟩
        simp only [intervalmonref09_Agrees.l1]
        rw [if_pos (by omega), if_pos (by omega), if_pos (by omega), if_pos (by omega), if_pos (by omega), e1, e2, w64 (x := r.getD i 0 - r.getD j 0) (by omega) (by omega), w64 (x := (i : Int) - j) (by omega) (by omega), hcan, Option.bind_some, if_neg (by rw [decide_eq_true_eq]; exact fun h => hc (hp.2 h))]
      · constructor
        · intro h; cases h
        · rintro ⟨h, _⟩; exact absurd (h j (Nat.le_refl _) (by omega)) hc
theorem ref_loop (dr first : Int) (l : List S39) (r : List Int) (d0 : 0 ≤ dr) (d1 : dr ≤ 512) (h0 : 0 ≤ first) (h1 : first ≤ 1048576) (hr : r.length ≤ 1000) (hl : l.length ≤ 1000) (hok : ∀ x ∈ l, okx x = true) : ∀ (d i : Nat), i + d = r.length → (∀ k, k < i → inRng (r.getD k 0)) →
    EvP (fun k => intervalmonref09_Agrees.l0 k dr l first r (i : Int)) ((∀ j, i ≤ j → j < r.length → goodAt dr r j) ∧ ∀ x ∈ l, shownP x first r) := by
  intro d
  induction d with
  | zero =>
    intro i hd _
    obtain ⟨b, ⟨K, hK⟩, hb⟩ := ref_l2 first r h0 h1 (by omega) l [] (by simp; omega) hok
    refine ⟨b, ⟨K + 1, fun k hk => ?_⟩, hb.trans ?_⟩
    · obtain ⟨m, rfl⟩ : ∃ m, k = m + 1 := ⟨k - 1, by omega⟩
      have hK' := hK m (by omega)
      simp only [List.nil_append, List.length_nil] at hK'
      simp only [intervalmonref09_Agrees.l0]
      rw [if_neg (by omega)]
      exact hK'
    · exact ⟨fun h => ⟨fun j h1 h2 => absurd h2 (by omega), h⟩, fun h => h.2⟩
  | succ d ih =>
    intro i hd hin
    have e1 : rd r (i : Int) = r.getD i 0 := by unfold rd; rw [Int.toNat_natCast]
    by_cases hrng : inRng (r.getD i 0)
    · have hin' : ∀ k, k < i + 1 → inRng (r.getD k 0) := fun k hk => by
        rcases Nat.lt_or_ge k i with h | h
        · exact hin k h
        · obtain rfl : k = i := by omega
          exact hrng
      have hQ := ih (i + 1) (by omega) hin'
      have ec : ((i + 1 : Nat) : Int) = (i : Int) + 1 := by omega
      rw [ec] at hQ
      obtain ⟨b, ⟨K, hK⟩, hb⟩ := ref_l1 dr first l r d0 d1 hr i (by omega) (fun k hk => hin' k (by omega)) _ hQ i 0 (by omega)
      unfold inRng at hrng
      refine ⟨b, ⟨K + 2, fun k hk => ?_⟩, hb.trans ?_⟩
      · obtain ⟨m, rfl⟩ : ∃ m, k = m + 1 + 1 := ⟨k - 2, by omega⟩
        have hK' := hK m (by omega)
        dsimp only at hK'
        simp only [intervalmonref09_Agrees.l0, intervalmonref09_Agrees.j2]
        rw [if_pos (by omega), if_pos (by omega), e1, if_neg (by omega), if_neg (by rw [decide_eq_true_eq]; omega)]
        exact hK'
      · constructor
        · rintro ⟨hp, hg, hs⟩
          refine ⟨fun j a c => ?_, hs⟩
          rcases Nat.lt_or_ge i j with hij | hij
          · exact hg j (by omega) c
          · obtain rfl : j = i := by omega
            exact ⟨hrng, fun k hk => hp k (by omega) hk⟩
        · rintro ⟨hg, hs⟩
          exact ⟨fun k _ hk => (hg i (Nat.le_refl _) (by omega)).2 k hk, fun j a c => hg j (by omega) c, hs⟩
    · refine ⟨false, ⟨2, fun k hk => ?_⟩, ?_⟩
      · obtain ⟨m, rfl⟩ : ∃ m, k = m + 1 + 1 := ⟨k - 2, by omega⟩
        unfold inRng at hrng
        simp only [intervalmonref09_Agrees.l0, intervalmonref09_Agrees.j2]
        rw [if_pos (by omega), if_pos (by omega), e1]
        by_cases hx : r.getD i 0 < -1099511627776
        · rw [if_pos hx, if_pos trivial]
        · rw [if_neg hx, if_pos (by rw [decide_eq_true_eq]; omega)]
      · constructor
        · intro h; cases h
        · rintro ⟨h, _⟩
          exact absurd (h i (Nat.le_refl _) (by omega)).1 hrng
theorem ref_agrees_ev (dr : Int) (l : List S39) (first : Int) (r : List Int) (hl : l.length ≤ 1000) (hr : r.length ≤ 1000) : EvP (fun k => intervalmonref09_Agrees.f k dr l first r) (agreesP dr l first r) := by
  unfold intervalmonref09_Agrees.f agreesP
  cases hv : vld dr l with
  | false =>
    refine ⟨false, Ev.bind (hv ▸ valid_ev' dr l (by omega)) ⟨1, fun k hk => ?_⟩, by simp⟩
    obtain ⟨m, rfl⟩ : ∃ m, k = m + 1 := ⟨k - 1, by omega⟩
    simp [intervalmonref09_Agrees.j0]
  | true =>
    have hv' := (vld_iff dr l).1 hv
    by_cases hg : 0 ≤ first ∧ first ≤ 1048576 ∧ (r.length : Int) ≤ 1048577 - first
    · obtain ⟨g0, g1, g2⟩ := hg
      obtain ⟨b, ⟨K, hK⟩, hb⟩ := ref_loop dr first l r hv'.1 hv'.2.1 g0 g1 hr hl hv'.2.2.2.2 r.length 0 (by omega) (fun k hk => absurd hk (by omega))
      refine ⟨b, ?_, hb.trans ?_⟩
      · refine Ev.bind (hv ▸ valid_ev' dr l (by omega)) ⟨K + 1, fun k hk => ?_⟩
        obtain ⟨m, rfl⟩ : ∃ m, k = m + 1 := ⟨k - 1, by omega⟩
        have hK' := hK m (by omega)
        dsimp only at hK'
        simp only [if_true, intervalmonref09_Agrees.j0]
        rw [if_neg (by omega), if_neg (by omega), w64 (x := 1048577 - first) (by omega) (by omega), if_neg (by rw [decide_eq_true_eq]; omega)]
        exact hK'
      · constructor
        · rintro ⟨h1, h2⟩; exact ⟨rfl, g0, g1, g2, fun i hi => h1 i (by omega) hi, h2⟩
        · rintro ⟨_, _, _, _, h1, h2⟩; exact ⟨fun j _ hj => h1 j hj, h2⟩
    · refine ⟨false, ?_, ?_⟩
      · refine Ev.bind (hv ▸ valid_ev' dr l (by omega)) ⟨1, fun k hk => ?_⟩
        obtain ⟨m, rfl⟩ : ∃ m, k = m + 1 := ⟨k - 1, by omega⟩
        simp only [if_true, intervalmonref09_Agrees.j0]
        by_cases c1 : first < 0
        · rw [if_pos c1]
        · rw [if_neg c1]
          by_cases c2 : first > 1048576
          · rw [if_pos c2]
          · rw [if_neg c2, w64 (x := 1048577 - first) (by omega) (by omega), if_pos (by rw [decide_eq_true_eq]; omega)]
      · constructor
        · intro h; cases h
        · rintro ⟨_, a, b, c, _⟩; exact absurd ⟨a, b, c⟩ hg
end Go.Proofs.Ythmbpipeogdejaa.Clk

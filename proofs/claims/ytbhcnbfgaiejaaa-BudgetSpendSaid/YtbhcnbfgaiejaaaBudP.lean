import Derived.Test.YtbhcnbfgaiejaaaPBudx9
import Derived.Test.YtbhcnbfgaiejaaaPBudx12
namespace Go.Proofs.Ytbhcnbfgaiejaaa.Bud
set_option linter.unusedVariables false
set_option linter.unusedSimpArgs false
open Go.RowKit Go.Proofs.Ytbhcnbfgaiejaaa.PBud Go.Proofs.YtbhcnbfgaiejaaaW.PrintWords Go.Proofs.YtbhcnbfgaiejaaaW.PrintLast Go.Proofs.YtbhcnbfgaiejaaaW.PrintMore
theorem w64 {x : Int} (h : -9223372036854775808 ≤ x) (h' : x ≤ 9223372036854775807) : wrap64 x = x := by unfold wrap64; omega
def inI (x : Int) : Prop := -9223372036854775808 ≤ x ∧ x ≤ 9223372036854775807
def inIb (x : Int) : Bool := decide (-9223372036854775808 ≤ x) && decide (x ≤ 9223372036854775807)
theorem inIb_iff {x : Int} : inIb x = true ↔ inI x := by unfold inIb inI; simp
def arV (n m : Int) : Int := if n < 0 then (-(n + 1)) % m else n % m
theorem around_ev (n m : Int) (hn : inI n) (hm : 1 ≤ m) : intervalmonref01_Around.f n m = some (arV n m) := by
  unfold inI at hn
  unfold intervalmonref01_Around.f arV
  by_cases h : n < 0
  · rw [if_pos h, if_neg (by omega), if_pos h, w64 (x := n + 1) (by omega) (by omega), w64 (by omega) (by omega), Int.tmod_eq_emod_of_nonneg (by omega)]
  · rw [if_neg h, if_neg (by omega), if_neg h, Int.tmod_eq_emod_of_nonneg (by omega)]
theorem arV_bd (n m : Int) (hm : 1 ≤ m) : 0 ≤ arV n m ∧ arV n m < m := by
  unfold arV
  split
  · exact ⟨Int.emod_nonneg _ (by omega), Int.emod_lt_of_pos _ (by omega)⟩
  · exact ⟨Int.emod_nonneg _ (by omega), Int.emod_lt_of_pos _ (by omega)⟩
def costs : List S34 → Int
  | [] => 0
  | x :: t => x.f1 + costs t
theorem costs_append (a b : List S34) : costs (a ++ b) = costs a + costs b := by
  induction a with
  | nil => simp [costs]
  | cons x a ih => simp only [List.cons_append, costs, ih]; omega
theorem costs_nn (a : List S34) (h : ∀ x ∈ a, 0 ≤ x.f1) : 0 ≤ costs a := by
  induction a with
  | nil => simp [costs]
  | cons x a ih =>
    have h1 := h x List.mem_cons_self
    have h2 := ih (fun y hy => h y (List.mem_cons_of_mem _ hy))
    simp only [costs]; omega
theorem rd_at (pre suf : List S34) (x : S34) : rd_T34 (pre ++ x :: suf) (pre.length : Int) = x := by simp [rd_T34]
theorem snoc (pre suf : List S34) (x : S34) : pre ++ x :: suf = (pre ++ [x]) ++ suf := by simp
theorem snocl (pre : List S34) (x : S34) : ((pre ++ [x]).length : Int) = (pre.length : Int) + 1 := by simp
theorem lenc (pre suf : List S34) (x : S34) : ((pre ++ x :: suf).length : Int) = (pre.length : Int) + (suf.length : Int) + 1 := by simp; omega
theorem spent_loop (B : Int) : ∀ (suf pre : List S34), (∀ x ∈ pre, 0 ≤ x.f1) → (∀ x ∈ suf, 0 ≤ x.f1) → costs pre + costs suf ≤ 2147483648 → (pre.length : Int) + suf.length ≤ 1000000 → Ev (fun k => intervalmonref17_Spent.l0 k (costs pre) (pre.length : Int) B (pre ++ suf)) (costs pre + costs suf) := by
  intro suf
  induction suf with
  | nil =>
    intro pre h1 h2 hb hn
    refine ⟨1, fun k hk => ?_⟩
    obtain ⟨m, rfl⟩ : ∃ m, k = m + 1 := ⟨k - 1, by omega⟩
    simp only [intervalmonref17_Spent.l0]
    rw [if_neg (by simp)]
    simp [costs]
  | cons x suf ih =>
    intro pre h1 h2 hb hn
    simp only [List.length_cons, costs] at hb hn
    have hx := h2 x List.mem_cons_self
    have h2' : ∀ y ∈ suf, 0 ≤ y.f1 := fun y hy => h2 y (List.mem_cons_of_mem _ hy)
    have c1 := costs_nn pre h1
    have c2 := costs_nn suf h2'
    have hc : costs (pre ++ [x]) = costs pre + x.f1 := by rw [costs_append]; simp [costs]
    obtain ⟨K, hK⟩ := ih (pre ++ [x]) (by intro y hy; rcases List.mem_append.1 hy with h | h; exact h1 y h; rw [List.mem_singleton.1 h]; exact hx) h2' (by rw [hc]; omega) (by rw [snocl]; omega)
    refine ⟨K + 1, fun k hk => ?_⟩
    obtain ⟨m, rfl⟩ : ∃ m, k = m + 1 := ⟨k - 1, by omega⟩
    have hK' := hK m (by omega)
    (try dsimp only at hK')
    rw [← snoc, snocl, hc] at hK'
    simp only [intervalmonref17_Spent.l0, costs]
    rw [rd_at, lenc, if_pos (by omega), if_pos (by omega), w64 (by omega) (by omega), w64 (by omega) (by omega), hK']
    rw [Int.add_assoc]
theorem spent_ev (B : Int) (es : List S34) (h : ∀ x ∈ es, 0 ≤ x.f1) (hs : costs es ≤ 2147483648) (hl : es.length ≤ 1000000) : Ev (fun k => intervalmonref17_Spent.f k B es) (costs es) := by
  have := spent_loop B es [] (by simp) h (by simp [costs]; omega) (by simp; omega)
  simpa [costs, intervalmonref17_Spent.f] using this
def okE (x : S34) : Prop := 0 ≤ x.f1 ∧ 1 ≤ (x.f0.size : Int) ∧ (x.f0.size : Int) ≤ 16
def rsp (B : Int) (es : List S34) (step : ByteArray) (cost : Int) : Int × List S34 × Int :=
  if cost < 0 ∨ (step.size : Int) < 1 ∨ 16 < (step.size : Int) then (B, es, 1) else if B - costs es < cost then (B, es, 12) else (B, es ++ [⟨step, cost⟩], 0)
structure Good (B : Int) (es : List S34) : Prop where
  b0 : 0 ≤ B
  b1 : B ≤ 2147483648
  ok : ∀ x ∈ es, okE x
  le : costs es ≤ B
theorem Good.nn {B : Int} {es : List S34} (h : Good B es) : ∀ x ∈ es, 0 ≤ x.f1 := fun x hx => (h.ok x hx).1
theorem Good.rsp {B : Int} {es : List S34} (h : Good B es) (step : ByteArray) (cost : Int) : (rsp B es step cost).1 = B ∧ Good B (rsp B es step cost).2.1 ∧ (rsp B es step cost).2.1.length ≤ es.length + 1 := by
  unfold Bud.rsp
  split
  · exact ⟨rfl, h, by simp⟩
  · split
    · exact ⟨rfl, h, by simp⟩
    · refine ⟨rfl, ⟨h.b0, h.b1, ?_, ?_⟩, by simp⟩
      · intro x hx
        rcases List.mem_append.1 hx with hx | hx
        · exact h.ok x hx
        · rw [List.mem_singleton.1 hx]
          refine ⟨?_, ?_, ?_⟩ <;> simp only <;> omega
      · simp only [costs_append, costs]; omega
theorem spend_ev (B : Int) (es : List S34) (step : ByteArray) (cost : Int) (h : Good B es) (hl : es.length ≤ 1000000) : Ev (fun k => intervalmonref17_Spend.f k B es step cost) (rsp B es step cost) := by
  have hn := costs_nn es h.nn
  have hb := h.le
  have hb1 := h.b1
  obtain ⟨K, hK⟩ := spent_ev B es h.nn (by omega) hl
  refine ⟨K + 1, fun k hk => ?_⟩
  obtain ⟨m, rfl⟩ : ∃ m, k = m + 1 := ⟨k - 1, by omega⟩
  have hK' := hK m (by omega)
  (try dsimp only at hK')
  simp only [intervalmonref17_Spend.f, intervalmonref17_Spend.j0, if_true, hK', Option.bind_some]
  unfold rsp
  by_cases c1 : cost < 0
  · rw [if_pos c1, if_pos (Or.inl c1)]
  · rw [if_neg c1]
    by_cases c2 : (step.size : Int) = 0
    · rw [if_pos c2, if_pos (Or.inr (Or.inl (by omega)))]
    · rw [if_neg c2]
      by_cases c3 : (step.size : Int) > 16
      · rw [if_pos (by simpa using c3), if_pos (Or.inr (Or.inr (by omega)))]
      · rw [if_neg (by simpa using c3), w64 (x := B - costs es) (by omega) (by omega), if_neg (c := cost < 0 ∨ _) (by omega)]
        by_cases c4 : B - costs es < cost
        · rw [if_pos (by omega), if_pos c4]
        · rw [if_neg (by omega), if_neg c4, if_pos (by simp; omega)]
          simp only [List.nil_append, Option.bind_some]
          rw [if_pos (by omega)]
theorem step_ev (a : Int) (ha : inI a) : ∃ s, intervalmonref17_Step.f a = some s ∧ s.size ≤ 17 := by
  have hb := arV_bd a 8 (by omega)
  have e := around_ev a 8 ha (by omega)
  unfold intervalmonref17_Step.f
  simp only [Option.bind_some, e]
  rw [if_pos hb.1, if_pos (by simpa using hb.2)]
  refine ⟨_, rfl, ?_⟩
  generalize arV a 8 = t at hb
  have : t = 0 ∨ t = 1 ∨ t = 2 ∨ t = 3 ∨ t = 4 ∨ t = 5 ∨ t = 6 ∨ t = 7 := by omega
  rcases this with rfl | rfl | rfl | rfl | rfl | rfl | rfl | rfl <;> decide
/-- The reference's ledger, made of numbers. -/
theorem of_loop (l : List Int) (hl : ∀ x ∈ l, inI x) (hll : l.length ≤ 4611686018427387904) (B : Int) : ∀ (n i : Nat) (es : List S34), 12 - i ≤ n → i ≤ 12 → Good B es → es.length ≤ i → ∃ es', Ev (fun k => intervalmonref17_Of.l0 k l (2 * (i : Int)) B es) (B, es') ∧ Good B es' ∧ es'.length ≤ 12 := by
  intro n
  induction n with
  | zero =>
    intro i es hn hi hg he
    have : i = 12 := by omega
    subst this
    refine ⟨es, ⟨2, fun k hk => ?_⟩, hg, by omega⟩
    obtain ⟨m, rfl⟩ : ∃ m, k = m + 2 := ⟨k - 2, by omega⟩
    simp only [intervalmonref17_Of.l0, intervalmonref17_Of.j1]
    split <;> simp
  | succ n ih =>
    intro i es hn hi hg he
    by_cases hlt : i < 12 ∧ 2 * (i : Int) + 1 < (l.length : Int)
    · obtain ⟨h1, h2⟩ := hlt
      have hrd : ∀ j : Int, 0 ≤ j → j < l.length → inI (rd l j) := by
        intro j hj0 hj
        apply hl
        unfold rd
        rw [List.getD_eq_getElem?_getD, List.getElem?_eq_getElem (by omega)]
        simp
      obtain ⟨s, hs, hs17⟩ := step_ev (rd l (2 * (i : Int))) (hrd _ (by omega) (by omega))
      have ha := around_ev (rd l (2 * (i : Int) + 1)) 40 (hrd _ (by omega) (by omega)) (by omega)
      have hab := arV_bd (rd l (2 * (i : Int) + 1)) 40 (by omega)
      obtain ⟨K1, hK1⟩ := spend_ev B es s (arV (rd l (2 * (i : Int) + 1)) 40 - 1) hg (by omega)
      obtain ⟨g1, g2, g3⟩ := hg.rsp s (arV (rd l (2 * (i : Int) + 1)) 40 - 1)
      obtain ⟨es', ⟨K2, hK2⟩, g4, g5⟩ := ih (i + 1) _ (by omega) (by omega) g2 (by omega)
      refine ⟨es', ⟨K1 + K2 + 2, fun k hk => ?_⟩, g4, g5⟩
      obtain ⟨m, rfl⟩ : ∃ m, k = m + 2 := ⟨k - 2, by omega⟩
      have h3 := hK1 m (by omega)
      have h4 := hK2 m (by omega)
      (try dsimp only at h3 h4)
      have e : 2 * ((i + 1 : Nat) : Int) = 2 * (i : Int) + 2 := by omega
      rw [e] at h4
      simp only [intervalmonref17_Of.l0, intervalmonref17_Of.j1]
      rw [w64 (x := 2 * (i : Int) + 1) (by omega) (by omega), if_pos h2, if_pos (by simp; omega), if_pos (by omega), if_pos (by omega), hs, Option.bind_some, if_pos (by omega), if_pos (by omega), ha, Option.bind_some, w64 (by omega) (by omega), h3, Option.bind_some, w64 (by omega) (by omega), g1, h4]
    · refine ⟨es, ⟨2, fun k hk => ?_⟩, hg, by omega⟩
      obtain ⟨m, rfl⟩ : ∃ m, k = m + 2 := ⟨k - 2, by omega⟩
      simp only [intervalmonref17_Of.l0, intervalmonref17_Of.j1]
      rw [w64 (x := 2 * (i : Int) + 1) (by omega) (by omega)]
      by_cases h2 : 2 * (i : Int) + 1 < (l.length : Int)
      · rw [if_pos h2, if_neg (by simp; omega)]
      · rw [if_neg h2, if_neg (by simp)]
theorem of_ev (n : Int) (l : List Int) (hn : inI n) (hl : ∀ x ∈ l, inI x) (hll : l.length ≤ 4611686018427387904) : ∃ B es, Ev (fun k => intervalmonref17_Of.f k n l) (B, es) ∧ Good B es ∧ es.length ≤ 12 ∧ B ≤ 200 := by
  have hb := arV_bd n 201 (by omega)
  obtain ⟨es, ⟨K, hK⟩, h1, h2⟩ := of_loop l hl hll (arV n 201) 12 0 [] (by omega) (by omega) ⟨hb.1, by omega, by simp, by simp [costs]; omega⟩ (by simp)
  refine ⟨arV n 201, es, ⟨K, fun k hk => ?_⟩, h1, h2, by omega⟩
  have h3 := hK k hk
  (try dsimp only at h3)
  have e : 2 * ((0 : Nat) : Int) = 0 := rfl
  rw [e] at h3
  simp only [intervalmonref17_Of.f]
  rw [around_ev n 201 hn (by omega), Option.bind_some, h3]
end Go.Proofs.Ytbhcnbfgaiejaaa.Bud

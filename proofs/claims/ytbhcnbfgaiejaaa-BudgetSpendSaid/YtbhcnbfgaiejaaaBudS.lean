import Derived.Test.YtbhcnbfgaiejaaaBudG
import Derived.Test.YtbhcnbfgaiejaaaPBudx22
namespace Go.Proofs.Ytbhcnbfgaiejaaa.PBud
open Go.RowKit Go.Proofs.YtbhcnbfgaiejaaaW.PrintWords Go.Proofs.YtbhcnbfgaiejaaaW.PrintLast Go.Proofs.YtbhcnbfgaiejaaaW.PrintMore
open Go.Proofs.Ytbhcnbfgaiejaaa.Bud
set_option linter.unusedVariables false
set_option linter.unusedSimpArgs false
theorem rd48_at (pre suf : List S34) (x : S34) : rd_T48 ((pre ++ x :: suf).map cv) (pre.length : Int) = cv x := by simp [rd_T48]
theorem same_loop : ∀ (suf pre : List S34), (pre.length : Int) + suf.length ≤ 1000000 → Ev (fun k => intervalmonlaw17_same.l0 k ((pre ++ suf).map cv) (pre ++ suf) (pre.length : Int)) true := by
  intro suf
  induction suf with
  | nil =>
    intro pre hn
    refine ⟨1, fun k hk => ?_⟩
    obtain ⟨m, rfl⟩ : ∃ m, k = m + 1 := ⟨k - 1, by omega⟩
    simp only [intervalmonlaw17_same.l0]
    rw [if_neg (by simp)]
  | cons x suf ih =>
    intro pre hn
    simp only [List.length_cons] at hn
    obtain ⟨K, hK⟩ := ih (pre ++ [x]) (by rw [snocl]; omega)
    refine ⟨K + 1, fun k hk => ?_⟩
    obtain ⟨m, rfl⟩ : ∃ m, k = m + 1 := ⟨k - 1, by omega⟩
    have hK' := hK m (by omega)
    (try dsimp only at hK')
    rw [← snoc, snocl] at hK'
    simp only [intervalmonlaw17_same.l0]
    rw [rd_at, rd48_at, lenc, if_pos (by rw [List.length_map, lenc]; omega), if_pos (by omega), if_pos (by omega), if_pos (by rfl), if_pos (by rfl), w64 (by omega) (by omega), hK']
theorem same_ev (es : List S34) (hn : es.length ≤ 1000) : Ev (fun k => intervalmonlaw17_same.f k (es.map cv) es) true := by
  obtain ⟨K, hK⟩ := same_loop es [] (by simp; omega)
  refine ⟨K, fun k hk => ?_⟩
  have h := hK k hk
  (try dsimp only at h)
  simp only [intervalmonlaw17_same.f]
  rw [if_pos (by simp)]
  exact h
theorem H2_below {base n : Nat} {F : Nat → Prop} {w W W2 : World} {g : Nat} {B S : Int} {esb : List S48} {es : List S34} {a b : Addr} {u v : Value} {A : Option Addr} (h : W.cell? a = some u ∧ W.cell? b = some v ∧ Led base F W g B S esb ∧ Kd.C k34 W A n es ∧ Below w.heap.size w W) (hb : Below W.heap.size W W2) : W2.cell? a = some u ∧ W2.cell? b = some v ∧ Led base F W2 g B S esb ∧ Kd.C k34 W2 A n es ∧ Below w.heap.size w W2 :=
  ⟨(hb.cell (World.block_lt_of_cell? W _ h.1)).trans h.1, (hb.cell (World.block_lt_of_cell? W _ h.2.1)).trans h.2.1, h.2.2.1.below hb, Kd.C_below h.2.2.2.1 hb, below_step h.2.2.2.2 hb⟩
theorem H2_drewN {base n : Nat} {F : Nat → Prop} {w W : World} {g : Nat} {B S : Int} {esb : List S48} {es : List S34} {a b : Addr} {u v : Value} {A : Option Addr} (h : W.cell? a = some u ∧ W.cell? b = some v ∧ Led base F W g B S esb ∧ Kd.C k34 W A n es ∧ Below w.heap.size w W) (m : Nat) : (W.drewN m).cell? a = some u ∧ (W.drewN m).cell? b = some v ∧ Led base F (W.drewN m) g B S esb ∧ Kd.C k34 (W.drewN m) A n es ∧ Below w.heap.size w (W.drewN m) := H2_below h (pw_below_drewN (Below.refl _ _) m)
theorem H2_drew {base n : Nat} {F : Nat → Prop} {w W : World} {g : Nat} {B S : Int} {esb : List S48} {es : List S34} {a b : Addr} {u v : Value} {A : Option Addr} (h : W.cell? a = some u ∧ W.cell? b = some v ∧ Led base F W g B S esb ∧ Kd.C k34 W A n es ∧ Below w.heap.size w W) : W.drew.cell? a = some u ∧ W.drew.cell? b = some v ∧ Led base F W.drew g B S esb ∧ Kd.C k34 W.drew A n es ∧ Below w.heap.size w W.drew := H2_below h (below_drew1 (Below.refl _ _))
theorem H2_end {base n : Nat} {F : Nat → Prop} {w W : World} {g : Nat} {B S : Int} {esb : List S48} {es : List S34} {a b : Addr} {u v : Value} {A : Option Addr} (h : W.cell? a = some u ∧ W.cell? b = some v ∧ Led base F W g B S esb ∧ Kd.C k34 W A n es ∧ Below w.heap.size w W) : Below w.heap.size w W := h.2.2.2.2
/-- The row handed out, that is spoiled. -/
structure OutInv (w4 W : World) (n3 n : Nat) (A : Option Addr) : Prop where
  kept : Kept w4 W (fun k => n3 ≤ k)
  out : 0 < n → ∃ g cur, A = some ⟨g, 0, none⟩ ∧ n3 ≤ g ∧ W.heap[g]? = some (.cells cur 48 (0, 0)) ∧ n * 2 ≤ cur.size
theorem OutInv.start {w3 w4 : World} {esb : List S48} {A : Option Addr} {c : Nat} (h : Kd.R k48 48 w4 w3.heap.size (fun _ => True) (.slice A esb.length c) esb) : OutInv w4 w4 w3.heap.size esb.length A := by
  refine ⟨Kept.refl _ _, fun hn => ?_⟩
  obtain ⟨inner, hl, ho⟩ := Kd.R_own h
  rcases ho with ⟨_, h0⟩ | ⟨g, cap, cur, he, hb, hh, h1, h2, h3, h4⟩
  · omega
  · injection he with e1 e2 e3
    exact ⟨g, cur, e1, hb, hh, by rw [h3]; exact Nat.mul_le_mul_right _ h1⟩
end Go.Proofs.Ytbhcnbfgaiejaaa.PBud

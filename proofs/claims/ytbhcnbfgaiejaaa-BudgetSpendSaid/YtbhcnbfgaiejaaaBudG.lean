import Derived.Test.YtbhcnbfgaiejaaaBudV
import Derived.Test.YtbhcnbfgaiejaaaBudP
namespace Go.Proofs.Ytbhcnbfgaiejaaa.PBud
open Go.RowKit Go.Proofs.YtbhcnbfgaiejaaaW.PrintWords Go.Proofs.YtbhcnbfgaiejaaaW.PrintLast Go.Proofs.YtbhcnbfgaiejaaaW.PrintMore
open Go.Proofs.Ytbhcnbfgaiejaaa.Bud
set_option linter.unusedVariables false
set_option linter.unusedSimpArgs false
def cv (x : S34) : S48 := ⟨x.f0, x.f1⟩
def LedgerPost (w : World) (B : Int) (es : List S34) (e : Ending) (w' : World) : Prop :=
  ∃ g, e = .returned (.pointer (some ⟨g, 0, none⟩)) ∧ Led w.heap.size (fun k => w.heap.size ≤ k) w' g B (costs es) (es.map cv) ∧ Below w.heap.size w w'
structure LgInv (w W : World) (gm gb : Nat) (A : Option Addr) (c : Nat) (B : Int) (es p q : List S34) : Prop where
  split : es = p ++ q
  blkm : W.heap[gm]? = some (.cells #[.int .i64 B, .slice A es.length c] 25 (0, 0))
  bel : Below w.heap.size w W
  lb : Led w.heap.size (fun k => gm < k) W gb B (costs p) (p.map cv)
set_option maxRecDepth 100000 in
set_option maxHeartbeats 8000000 in
theorem ledger.calls (w : World) (B : Int) (A : Option Addr) (c : Nat) (es : List S34) (hg : Bud.Good B es) (hl : es.length ≤ 100) (hC : Kd.C k34 w A es.length es) :
    Calls Try.prog 23 #[.agg #[.int .i64 B, .slice A es.length c]] w (LedgerPost w B es) := by
  have HG := Aside0.mk hg
  have HL := Aside0.mk hl
  have HC := Aside0.mk hC
  clear hg hl hC
  have hu25 := Try.underlying25
  have hu34 := Try.underlying34
  go_enter Try.func23, Try.ntmps23
  go_upto_region 1 with (fail)
  have hM := blk_new w (.cells #[.int .i64 B, .slice A es.length c] 25)
  have hB := below_alloc (Below.refl w.heap.size w) (.cells #[.int .i64 B, .slice A es.length c] 25)
  have hz : (w.alloc (.cells #[.int .i64 B, .slice A es.length c] 25)).heap.size = w.heap.size + 1 := by simp
  generalize w.alloc (.cells #[.int .i64 B, .slice A es.length c] 25) = w1 at hM hB hz ⊢
  have HZ := Aside0.mk hz
  have HM := Aside0.mk hM
  have HB := Aside0.mk hB
  clear hz hM hB
  have hc0 : w1.cell? ⟨w.heap.size, 0, none⟩ = some (.int .i64 B) := (blk_cell HM.out 0).trans rfl
  go_wp2_with fail
  refine (New.calls_ok w _ B HB.out HG.out.b0 HG.out.b1).mono ?_
  rintro e w2 ⟨rfl, hL, hb⟩
  have HM2 := Aside0.mk (blk_below HM.out hb)
  have HB2 := Aside0.mk (below_step HB.out hb)
  have HL2 := Aside0.mk (hL.mono (F' := fun k => w.heap.size < k) (fun k hk => by have := HZ.out; omega))
  clear hL hb hc0 HM HB
  generalize w1.heap.size = gb at HL2 ⊢
  have hln : (es.length : Int) ≤ 100 := by have := HL.out; omega
  go_wp2
  go_loopg [5] es.length (fun kq v5 W => ∃ (p q : List S34) (i : Int), v5 = .int .i64 i ∧ Aside0 (i = (p.length : Int)) ∧ Aside0 (q.length ≤ kq) ∧ Aside0 (LgInv w W w.heap.size gb A c B es p q))
  case atStart => exact ⟨[], es, 0, rfl, ⟨rfl⟩, ⟨Nat.le_refl _⟩, ⟨⟨rfl, HM2.out, HB2.out, HL2.out⟩⟩⟩
  case round =>
    clear HM2 HB2 HL2
    obtain ⟨p, q, i, rfl, Hi, HK, HI⟩ := hrel
    have hc1 : wr.cell? ⟨w.heap.size, 1, none⟩ = some (.slice A es.length c) := (blk_cell HI.out.blkm 1).trans rfl
    cases q with
    | nil =>
      have hes : es = p := by have := HI.out.split; simpa using this
      have hi : i = (es.length : Int) := by rw [hes]; exact Hi.out
      have HE := Aside0.mk hes
      clear hes
      subst hi
      go_wp2
      go_ret
      exact ⟨gb, rfl, by have h := HI.out.lb; rw [← HE.out] at h; exact h.mono (fun k hk => by omega), HI.out.bel⟩
    | cons x q =>
      have hes := HI.out.split
      have hi := Hi.out
      have h0i : 0 ≤ i := by omega
      have hil : i < (es.length : Int) := by rw [hes]; simp; omega
      have hrd : rd_T34 es i = x := by rw [hes, hi, rd_at]
      have hcs : costs es = costs p + x.f1 + costs q := by rw [hes, costs_append]; simp only [costs]; omega
      have hcp := costs_nn p (fun y hy => (HG.out.ok y (by rw [hes]; simp [hy])).1)
      have hcq := costs_nn q (fun y hy => (HG.out.ok y (by rw [hes]; simp [hy])).1)
      have hxx := HG.out.ok x (by rw [hes]; simp)
      have hle := HG.out.le
      have Hx := Aside0.mk hxx
      have HcqB := Aside0.mk (show costs p + x.f1 ≤ B by omega)
      have Hcp := Aside0.mk hcp
      have HB1 := Aside0.mk HG.out.b1
      obtain ⟨ad, eA, hd2, hd3⟩ := at_T34 HC.out i h0i hil
      rw [hrd] at hd2 hd3
      have hbl := World.block_lt_of_cell? w _ hd2
      have hc2 := (HI.out.bel.cell hbl).trans hd2
      have hc3 := (HI.out.bel.cell (World.block_lt_of_cell? w _ hd3)).trans hd3
      have HBL := Aside0.mk hbl
      cases eA
      have Hes := Aside0.mk hes
      clear hbl hd2 hd3 hes hi hrd hcs hcp hcq hxx hle
      cases gk with
      | zero => exact absurd HK.out (by simp)
      | succ k1 =>
      go_wp2
      go_region_held3 (fun w' => w'.cell? ⟨w.heap.size, 1, none⟩ = some (.slice (some ad) es.length c) ∧ w'.cell? (ad.add (i.toNat * 2)) = some (.string x.f0) ∧ w'.cell? ⟨(ad.add (i.toNat * 2)).block, (ad.add (i.toNat * 2)).off + 1, none⟩ = some (.int .i64 x.f1)) ((first | exact ⟨hc1, hc2, hc3⟩ | exact ⟨cell_kept hc1 HK5.out (fun h => Nat.lt_irrefl _ h), cell_kept hc2 HK5.out (fun h => Nat.lt_asymm HBL.out (show w.heap.size < (ad.add (i.toNat * 2)).block from h)), cell_kept hc3 HK5.out (fun h => Nat.lt_asymm HBL.out (show w.heap.size < (ad.add (i.toNat * 2)).block from h))⟩)) (first | (go_at_call 13; refine (Spend.calls_as w _ _ gb B (costs p) (p.map cv) x.f0 x.f1 0 (costs p + x.f1) (p.map cv ++ [⟨x.f0, x.f1⟩]) (by have h1 := Hx.out; have h2 := HcqB.out; unfold okE at h1; unfold sp; rw [if_neg (by omega), if_neg (by omega)]) (by first | exact below_drew1 HI.out.bel | exact pw_below_drewN HI.out.bel _) (HI.out.lb.below (by first | exact below_drew1 (Below.refl _ _) | exact pw_below_drewN (Below.refl _ _) _)) Hcp.out (by have h1 := Hx.out; have h2 := HcqB.out; unfold okE at h1; omega) HB1.out (by have h2 := Hes.out; have h3 : es.length = p.length + (q.length + 1) := (by rw [h2]; simp); simp; omega)).mono ?_; rintro e w5 ⟨rfl, HLb5, HB5, HK5⟩))
      clear hc1 hc2 hc3
      go_wp2
      go_roundg k1
      case measure => have := HK.out; simp at this; omega
      case rel => exact ⟨p ++ [x], q, i + 1, rfl, ⟨by rw [snocl]; have := Hi.out; omega⟩, ⟨by have := HK.out; simp at this; omega⟩, ⟨⟨by rw [← snoc]; exact Hes.out, blk_kept HI.out.blkm HK5.out (fun h => Nat.lt_irrefl _ h), HB5.out, by have h := HLb5.out; rw [costs_append, List.map_append]; simp only [costs, Int.add_zero, List.map_cons, List.map_nil, cv]; exact h.mono (fun k hk => hk.elim id (fun h1 => by have h2 := (Led.lt HI.out.lb); have h3 : w.heap.size < gb := HI.out.lb.2.1; have h4 : wr.heap.size ≤ k := h1; omega))⟩⟩⟩
end Go.Proofs.Ytbhcnbfgaiejaaa.PBud

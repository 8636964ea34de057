import Derived.Test.YtbhcnbfgaiejaaaBudS
namespace Go.Proofs.Ytbhcnbfgaiejaaa.PBud
open Go.RowKit Go.Proofs.YtbhcnbfgaiejaaaW.PrintWords Go.Proofs.YtbhcnbfgaiejaaaW.PrintLast Go.Proofs.YtbhcnbfgaiejaaaW.PrintMore
open Go.Proofs.Ytbhcnbfgaiejaaa.Bud
set_option linter.unusedVariables false
set_option linter.unusedSimpArgs false
set_option maxRecDepth 100000 in
set_option maxHeartbeats 8000000 in
theorem BudgetOwn.calls (a0 : Int) (A1 : Option Addr) (c1 : Nat) (l1 : List Int) (w : World) (hr1 : Kd.C (Kd.int .i64) w A1 l1.length l1) (hc1 : l1.length ≤ c1) (h0 : inI a0) (h1 : ∀ x ∈ l1, inI x) (hll : l1.length ≤ 4611686018427387904) :
    Calls Try.prog 6 #[.int .i64 a0, .slice A1 l1.length c1] w fun e w' => e = .returned (.bool true) ∧ Below w.heap.size w w' := by
  obtain ⟨B, es, hof, hg, hle12, hB200⟩ := of_ev a0 l1 h0 h1 hll
  obtain ⟨k, hk⟩ := Ev.rounds hof
  have hnn := costs_nn es hg.nn
  have hle := hg.le
  obtain ⟨k2, hk2⟩ := Ev.rounds (spent_ev B es hg.nn (by omega) (by omega))
  obtain ⟨k3, hk3⟩ := Ev.rounds (same_ev es (by omega))
  have hlenb : (es.map cv).length ≤ 12 := by simpa using hle12
  obtain ⟨esb, hesb⟩ : ∃ e, es.map cv = e := ⟨_, rfl⟩
  rw [hesb] at hk3 hlenb
  have HC := Aside0.mk hr1
  have HCC := Aside0.mk hc1
  have HOF := Aside0.mk hk
  have HSP := Aside0.mk hk2
  have HSA := Aside0.mk hk3
  have HG := Aside0.mk hg
  have H12 := Aside0.mk hle12
  have H12b := Aside0.mk hlenb
  have HEB := Aside0.mk hesb
  clear hr1 hc1 h0 h1 hll hof hk hk2 hk3 hg hle12 hlenb hesb
  obtain ⟨S, hS⟩ : ∃ S, costs es = S := ⟨_, rfl⟩
  rw [hS] at hnn hle HSP
  have HS := Aside0.mk hS
  clear hS
  have hu25 := Try.underlying25
  have hu48 := Try.underlying48
  go_enter Try.func6, Try.ntmps6
  go_wp2_with fail
  refine (intervalmonref17_Of.calls k a0 A1 c1 l1 B es w HC.out HCC.out HOF.out).mono ?_
  rintro e w1 ⟨v, rfl, hR, hb⟩
  obtain ⟨A, c, rfl⟩ := Kd.R_slice hR
  have HR1 := Aside0.mk hR
  have HB1 := Aside0.mk hb
  clear hR hb
  go_upto_region 2 with (fail)
  have hM := blk_new w1 (.cells #[.int .i64 B, .slice A es.length c] 25)
  have hR2 := Kd.R_alloc HR1.out (.cells #[.int .i64 B, .slice A es.length c] 25)
  have hB2 := below_alloc HB1.out (.cells #[.int .i64 B, .slice A es.length c] 25)
  generalize w1.alloc (.cells #[.int .i64 B, .slice A es.length c] 25) = w2 at hM hR2 hB2 ⊢
  generalize w1.heap.size = gm at hM ⊢
  clear HR1 HB1
  have HM2 := Aside0.mk hM
  have HC2 := Aside0.mk (Kd.R_reads' hR2).2.2
  have HR2 := Aside0.mk hR2
  have HB2 := Aside0.mk hB2
  clear hM hR2 hB2
  have hc0 : w2.cell? ⟨gm, 0, none⟩ = some (.int .i64 B) := (blk_cell HM2.out 0).trans rfl
  have hc1 : w2.cell? ⟨gm, 1, none⟩ = some (.slice A es.length c) := (blk_cell HM2.out 1).trans rfl
  go_wp2_with fail
  refine (ledger.calls w2 B A c es HG.out (by have := H12.out; omega) HC2.out).mono ?_
  rintro e w3 ⟨gb, rfl, hL, hb⟩
  rw [HS.out, HEB.out] at hL
  have HM3 := Aside0.mk (blk_below HM2.out hb)
  have HR3 := Aside0.mk (Kd.R_mono (Kd.R_below (Kd.R_bound HR2.out) hb) (fun k hk => Nat.lt_of_lt_of_le hk.2.2.1 hb.size) : Kd.R k34 34 w3 w.heap.size (fun k => k < w3.heap.size) (.slice A es.length c) es)
  have HB3 := Aside0.mk (below_step HB2.out hb)
  have HL3 := Aside0.mk hL.bound
  clear hL hb hc0 hc1 HM2 HC2 HB2 HR2
  go_wp2_with fail
  refine (Entries.calls _ _ _ _ _ _ _ HL3.out (by have := H12b.out; omega)).mono ?_
  rintro e w4 ⟨v, rfl, hR, hb⟩
  obtain ⟨A2, c2, rfl⟩ := Kd.R_slice hR
  have HO4 := Aside0.mk (OutInv.start hR)
  have HM4 := Aside0.mk (blk_below HM3.out hb)
  have HR4 := Aside0.mk (Kd.R_below HR3.out hb)
  have HB4 := Aside0.mk (below_step HB3.out hb)
  have HL4 := Aside0.mk (HL3.out.below hb)
  have hlm : gm < w3.heap.size := blk_lt HM3.out
  have HLM := Aside0.mk hlm
  have hw3 := below_size HB3.out
  have HW3 := Aside0.mk hw3
  clear hR hb hlm HM3 HR3 HB3 HL3 hw3
  have hlnb : (esb.length : Int) ≤ 12 := by have := H12b.out; omega
  go_wp2
  go_loopg [8] esb.length (fun kq v8 W => ∃ i : Int, v8 = .int .i64 i ∧ Aside0 (0 ≤ i ∧ i + kq = esb.length) ∧ Aside0 (OutInv w4 W w3.heap.size esb.length A2) ∧ Aside0 (Below w.heap.size w W))
  case atStart => exact ⟨0, rfl, ⟨by omega⟩, HO4, HB4⟩
  case round =>
    clear HO4 HB4
    obtain ⟨i, rfl, Hi, HO, HB⟩ := hrel
    cases gk with
    | zero =>
      have hi : i = (esb.length : Int) := by have := Hi.out; omega
      subst hi
      have hMx := blk_kept HM4.out HO.out.kept (fun h => by have := HLM.out; omega)
      have hc0 : wr.cell? ⟨gm, 0, none⟩ = some (.int .i64 B) := (blk_cell hMx 0).trans rfl
      have hc1 : wr.cell? ⟨gm, 1, none⟩ = some (.slice A es.length c) := (blk_cell hMx 1).trans rfl
      have hRx := Kd.R_kept HR4.out HO.out.kept (fun k hk h => by omega)
      have hLx := HL4.out.kept HO.out.kept (fun k hk h => by have := hk.2; omega)
      have HCx := Aside0.mk (Kd.R_reads' hRx).2.2
      have HCc := Aside0.mk (Kd.R_reads' hRx).2.1
      have HLx := Aside0.mk hLx
      clear hMx hRx hLx HM4 HR4 HL4 HO
      go_wp2
      go_region_held3 (fun w' => w'.cell? ⟨gm, 0, none⟩ = some (.int .i64 B) ∧ w'.cell? ⟨gm, 1, none⟩ = some (.slice A es.length c) ∧ Led w2.heap.size (fun k => w2.heap.size ≤ k ∧ k < w3.heap.size) w' gb B S esb ∧ Kd.C k34 w' A es.length es ∧ Below w.heap.size w w') ((first | assumption | exact ⟨hc0, hc1, HLx.out, HCx.out, HB.out⟩ | exact H2_drew ⟨hc0, hc1, HLx.out, HCx.out, HB.out⟩ | exact H2_below (by assumption) (by assumption) | exact H2_drewN (by assumption) _ | exact H2_drewN ⟨hc0, hc1, HLx.out, HCx.out, HB.out⟩ _)) (first | (go_at_call 18; refine (Entries.calls _ _ _ _ _ _ _ (And.left (And.right (And.right (by assumption)))) (by have := H12b.out; omega)).mono ?_; rintro e w5 ⟨v5, rfl, hR5, hb5⟩; obtain ⟨A5, c5, rfl⟩ := Kd.R_slice hR5) | (go_at_call 22; refine (intervalmonlaw17_same.calls k3 A5 c5 esb A c es true _ (Kd.R_reads' hR5).2.2 (Kd.R_reads' hR5).2.1 (And.left (And.right (And.right (And.right (by assumption))))) HCc.out HSA.out).mono ?_; rintro e w6 ⟨rfl, n6, rfl⟩) | (go_at_call 17; refine (Spent.calls _ _ _ _ _ _ _ (And.left (And.right (And.right (by assumption))))).mono ?_; rintro e w7 ⟨rfl, rfl⟩) | (go_at_call 10; refine (intervalmonref17_Spent.calls k2 B A c es S _ (And.left (And.right (And.right (And.right (by assumption))))) HCc.out HSP.out).mono ?_; rintro e w8 ⟨rfl, hb8⟩) | (go_at_call 15; refine (lives.calls _).mono ?_; rintro e w9 ⟨rfl, hb9⟩))
      all_goals go_wp2
      all_goals go_ret
      all_goals exact ⟨rfl, H2_end (by assumption)⟩
    | succ k1 =>
      have hi := Hi.out
      have hpos : i < (esb.length : Int) := by omega
      have h0i : 0 ≤ i := by omega
      obtain ⟨g, cur, hA, hg3, hh, hcs⟩ := HO.out.out (by omega)
      have HW := Aside0.mk (Nat.le_trans HW3.out hg3)
      have HG3 := Aside0.mk hg3
      have hl0 : i.toNat * 2 + 1 < cur.size := by omega
      have hu0 : wr.cell? ⟨g, i.toNat * 2, none⟩ = some cur[i.toNat * 2] := (blk_cell hh _).trans (by rw [Array.getElem?_eq_getElem])
      have hu1 : wr.cell? ⟨g, i.toNat * 2 + 1, none⟩ = some cur[i.toNat * 2 + 1] := (blk_cell hh _).trans (by rw [Array.getElem?_eq_getElem])
      have hf0 := blk_frozen hh (i.toNat * 2)
      have hf1 := blk_frozen hh (i.toNat * 2 + 1)
      generalize cur[i.toNat * 2] = y0 at hu0
      generalize cur[i.toNat * 2 + 1] = y1 at hu1
      subst hA
      have Hh := Aside0.mk hh
      have Hcs := Aside0.mk hcs
      clear hi hg3 hh hcs hl0
      go_wp2
      go_roundg k1
      case measure => omega
      case rel => exact ⟨i + 1, rfl, ⟨by have := Hi.out; omega⟩, ⟨⟨Kept.setCell (Kept.setCell HO.out.kept (.inl HG3.out) _) (.inl HG3.out) _, fun _ => ⟨g, _, rfl, HG3.out, blk_set (blk_set Hh.out _ _) _ _, by simpa using Hcs.out⟩⟩⟩, ⟨below_set (below_set HB.out HW.out) HW.out⟩⟩
def intervalmonlaw17_BudgetOwn.f (a0 : Int) (l1 : List Int) : Option Bool := if inIb a0 = true ∧ l1.all inIb = true ∧ l1.length ≤ 4611686018427387904 then some true else none
theorem intervalmonlaw17_BudgetOwn.calls (a0 : Int) (A1 : Option Addr) (c1 : Nat) (l1 : List Int) (r : Bool) (w : World) (hr1 : Kd.C (Kd.int .i64) w A1 l1.length l1) (hc1 : l1.length ≤ c1) (h : intervalmonlaw17_BudgetOwn.f a0 l1 = some r) :
    Calls Try.prog 6 #[.int .i64 a0, .slice A1 l1.length c1] w fun e w' => e = .returned (.bool r) ∧ Below w.heap.size w w' := by
  unfold intervalmonlaw17_BudgetOwn.f at h
  split at h
  · rename_i hh
    obtain rfl : true = r := by injection h
    exact BudgetOwn.calls a0 A1 c1 l1 w hr1 hc1 (inIb_iff.1 hh.1) (fun x hx => inIb_iff.1 (List.all_eq_true.1 hh.2.1 x hx)) hh.2.2
  · cases h
end Go.Proofs.Ytbhcnbfgaiejaaa.PBud

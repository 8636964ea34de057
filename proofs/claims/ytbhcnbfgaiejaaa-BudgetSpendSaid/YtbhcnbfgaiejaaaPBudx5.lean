import Derived.Test.YtbhcnbfgaiejaaaBudT
namespace Go.Proofs.Ytbhcnbfgaiejaaa.PBud
open Go.RowKit Go.Proofs.YtbhcnbfgaiejaaaW.PrintWords Go.Proofs.YtbhcnbfgaiejaaaW.PrintLast Go.Proofs.YtbhcnbfgaiejaaaW.PrintMore
open Go.Proofs.Ytbhcnbfgaiejaaa.Bud
set_option linter.unusedVariables false
set_option linter.unusedSimpArgs false
set_option maxRecDepth 100000 in
set_option maxHeartbeats 16000000 in
theorem BudgetSpend.calls (a0 : Int) (A1 : Option Addr) (c1 : Nat) (l1 : List Int) (raw : Int) (w : World) (hr1 : Kd.C (Kd.int .i64) w A1 l1.length l1) (hc1 : l1.length ≤ c1) (h0 : inI a0) (h1 : ∀ x ∈ l1, inI x) (hll : l1.length ≤ 4611686018427387904) (h2 : inI raw) :
    Calls Try.prog 5 #[.int .i64 a0, .slice A1 l1.length c1, .int .i64 raw] w fun e w' => e = .returned (.bool true) ∧ Below w.heap.size w w' := by
  obtain ⟨o, ho, hol, hom⟩ := ints_ev l1 hll
  have har := around_ev a0 201 h0 (by omega)
  have hab := arV_bd a0 201 (by omega)
  obtain ⟨B, hBe⟩ : ∃ B, arV a0 201 = B := ⟨_, rfl⟩
  rw [hBe] at har hab
  have HC := Aside0.mk hr1
  have HCC := Aside0.mk hc1
  have HAR := Aside0.mk har
  have HO := Aside0.mk ho
  have HOL := Aside0.mk hol
  have HOI := Aside0.mk (show ∀ x ∈ o ++ [4, raw], inI x by
    intro x hx
    rcases List.mem_append.1 hx with h | h
    · exact h1 x (hom x h)
    · simp only [List.mem_cons, List.not_mem_nil, or_false] at h
      rcases h with rfl | rfl
      · unfold inI; omega
      · exact h2)
  clear hr1 hc1 h0 h1 hll h2 ho hol hom har hBe
  have hu25 := Try.underlying25
  have hu34 := Try.underlying34
  go_enter Try.func5, Try.ntmps5
  go_wp2_with fail
  refine (intervalmonref01_Around.calls a0 201 B _ HAR.out).mono ?_
  rintro e w1 ⟨rfl, n1, hn1⟩
  have hb1 : Below w.heap.size w w1 := by rw [hn1]; exact pw_below_drewN (Below.refl _ _) n1
  clear hn1
  go_upto_region 2 with (fail)
  have hM := blk_new w1 (.cells #[.int .i64 B, .slice none 0 0] 25)
  have hB2 := below_alloc hb1 (.cells #[.int .i64 B, .slice none 0 0] 25)
  have hgm := hb1.size
  generalize w1.alloc (.cells #[.int .i64 B, .slice none 0 0] 25) = w2 at hM hB2 ⊢
  generalize w1.heap.size = gm at hM hgm ⊢
  have HM2 := Aside0.mk hM
  have HB2 := Aside0.mk hB2
  have HGM := Aside0.mk hgm
  clear hM hB2 hgm hb1
  have hc0 : w2.cell? ⟨gm, 0, none⟩ = some (.int .i64 B) := (blk_cell HM2.out 0).trans rfl
  go_wp2_with fail
  refine (New.calls_ok w _ B HB2.out hab.1 (by omega)).mono ?_
  rintro e w3 ⟨rfl, hL, hb⟩
  have HM3 := Aside0.mk (blk_below HM2.out hb)
  have HB3 := Aside0.mk (below_step HB2.out hb)
  have HL3 := Aside0.mk (hL.mono (F' := fun _ => True) (fun _ _ => trivial))
  clear hL hb hc0 HM2 HB2
  generalize w2.heap.size = gb at HL3 ⊢
  go_wp2_with fail
  refine (intervalmonref01_Ints.calls A1 c1 l1 40 o w3 (Kd.C_below HC.out HB3.out) HCC.out HO.out).mono ?_
  rintro e w4 ⟨v4, rfl, hR, hb⟩
  obtain ⟨A4, c4, rfl⟩ := Kd.R_slice hR
  have HR4 := Aside0.mk (Kd.R_lower hR HB3.out.size)
  have HM4 := Aside0.mk (blk_below HM3.out hb)
  have HB4 := Aside0.mk (below_step HB3.out hb)
  have HL4 := Aside0.mk (HL3.out.below hb)
  clear hR hb HM3 HB3 HL3
  go_wp2_with (at_builtin; (refine Kd.R_append_row (Value.int .i64) 0 (h1 := fun _ => rfl) (w0 := w) w.heap.size rfl (.tmp 32) (.tmp 34) 22 3 (.int .i64 0) 8 rfl Try.underlying22 info3b rfl (by omega) (.slice A4 o.length c4) o [4, raw] (some ⟨w4.heap.size, 0, none⟩) 2 2 (fun _ => True) rfl rfl ?aF ?aO ?aC ?aB ?aS ?aL ?_); (case aF => exact fun _ _ => trivial); (case aO => exact Kd.R_alloc (Kd.R_mono HR4.out (fun _ _ => trivial)) _); (case aC => exact lit_C (blk_new w4 _)); (case aB => exact below_alloc HB4.out _); (case aS => exact below_size (below_alloc HB4.out _)); (case aL => have := HOL.out; omega); intro v5 w5 hR5 hb5 hg5 hat5; obtain ⟨own, hown⟩ : ∃ own, o ++ [4, raw] = own := ⟨_, rfl⟩; rw [hown] at hR5; obtain ⟨A5, c5, rfl⟩ := Kd.R_slice hR5; have H5 := Aside0.mk hR5; have HB5 := Aside0.mk hb5; have HK5 := Aside0.mk (Kept.of_grown hg5 (Kept.alloc (Kept.refl w4 (ofT w4 3)) _) (fun k hk => .inl (R3_typed HR4.out |>.1 k hk))); have HON := Aside0.mk hown; clear hR5 hb5 hg5 hat5 hown)
  have hinv : SpInv w w5 gm gb A5 c5 B own [] none 0 := ⟨HGM.out, blk_kept HM4.out HK5.out (fun h => ofT_ne h ⟨_, HM4.out⟩ (by decide)), Kd.R_nil _ _ _ _ _, (HL4.out.typed.kept HK5.out (fun k h1 h2 => h1.elim (fun h1 => ofT_ne h1 h2 (by decide)) (fun h1 => ofT_ne h1 h2 (by decide)))).mono (fun _ _ => trivial), H5.out, HB5.out⟩
  have hgood : Bud.Good B [] := ⟨hab.1, by omega, by simp, by simp [costs]; omega⟩
  have HI5 := Aside0.mk hinv
  have HG5 := Aside0.mk hgood
  have hoi : ∀ x ∈ own, inI x := by rw [← HON.out]; exact HOI.out
  have hol : own.length ≤ 42 := by rw [← HON.out]; have := HOL.out; simp; omega
  have HOI5 := Aside0.mk hoi
  clear hinv hgood hoi HM4 HL4 HR4 HB4 H5 HB5 HK5 HON HOI HOL
  go_loopg [11] own.length (fun kq v11 W => ∃ (i : Int) (es : List S34) (A : Option Addr) (c : Nat), v11 = .int .i64 i ∧ Aside0 (0 ≤ i ∧ (own.length : Int) ≤ i + 2 * kq ∧ i ≤ 60) ∧ Aside0 (Bud.Good B es ∧ (es.length : Int) ≤ i) ∧ Aside0 (SpInv w W gm gb A5 c5 B own es A c))
  case atStart => exact ⟨0, [], none, 0, rfl, ⟨by omega⟩, ⟨⟨HG5.out, by simp⟩⟩, HI5⟩
  case round =>
    clear HI5 HG5
    obtain ⟨i, es, A, c, rfl, Hi, HG, HI⟩ := hrel
    have h0i : 0 ≤ i := Hi.out.1
    by_cases hlt : i + 1 < (own.length : Int)
    · cases gk with
      | zero => exact absurd Hi.out.2.1 (by omega)
      | succ k1 =>
      have hi50 : i ≤ 50 := by omega
      obtain ⟨ad, eA, hd0⟩ := Kd.at_int (Kd.R_reads' HI.out.own).2.2 i h0i (by omega)
      obtain ⟨ad', eA', hd1⟩ := Kd.at_int (Kd.R_reads' HI.out.own).2.2 (i + 1) (by omega) hlt
      cases eA
      cases eA'
      have hx0 : inI (rd own i) := HOI5.out _ (by unfold rd; rw [List.getD_eq_getElem?_getD, List.getElem?_eq_getElem (by omega)]; simp)
      have hx1 : inI (rd own (i + 1)) := HOI5.out _ (by unfold rd; rw [List.getD_eq_getElem?_getD, List.getElem?_eq_getElem (by omega)]; simp)
      obtain ⟨s, hs, hs17⟩ := step_ev _ hx0
      have ha := around_ev _ 40 hx1 (by omega)
      have hab2 := arV_bd (rd own (i + 1)) 40 (by omega)
      obtain ⟨ar, har⟩ : ∃ ar, arV (rd own (i + 1)) 40 = ar := ⟨_, rfl⟩
      rw [har] at ha hab2
      have HS := Aside0.mk hs
      have HA := Aside0.mk ha
      have HD0 := Aside0.mk hd0
      clear hx0 hx1 hs ha har hs17 hd0
      have HAB := Aside0.mk hab2
      clear hab2
      go_upto_region 10 with (fail)
      have hi1 : i < (own.length : Int) := by omega
      have hB200 : B ≤ 200 := by omega
      rcases (show i + 2 < (own.length : Int) ∨ (own.length : Int) ≤ i + 2 by omega) with h2 | h2
      · go_upto_region 11 with (fail)
        go_wp2_with fail
        refine (intervalmonref01_Around.calls (rd own (i + 1)) 40 ar _ HA.out).mono ?_
        rintro e w6 ⟨rfl, n6, hn6⟩
        have hb6 : Below wr.heap.size wr w6 := by rw [hn6]; exact pw_below_drewN (Below.refl _ _) n6
        have HI6 := Aside0.mk (HI.out.below hb6)
        clear hn6 hb6 HI hd1 h2
        have har2 : 0 ≤ ar ∧ ar < 40 := HAB.out
        go_upto_region 12 with (fail)
        clear har2
        generalize hcost : ar - 1 = cost
        clear hcost
        obtain ⟨ks, hks⟩ := Ev.rounds (spend_ev B es s cost HG.out.1 (by have := HG.out.2; omega))
        obtain ⟨g1, g2, g3⟩ := HG.out.1.rsp s cost
        have hsp := sp_rsp B es s cost
        obtain ⟨B', es', r3, hr⟩ : ∃ B' es' r3, rsp B es s cost = (B', es', r3) := ⟨_, _, _, rfl⟩
        rw [hr] at hks g1 g2 g3 hsp
        obtain rfl : B = B' := g1.symm
        have HKS := Aside0.mk hks
        have HG2 := Aside0.mk g2
        have HG3 := Aside0.mk g3
        have HSP := Aside0.mk hsp
        clear hks g2 g3 hsp hr
        have hgmlt : gm < w6.heap.size := blk_lt HI6.out.blkm
        have HGL := Aside0.mk hgmlt
        clear hgmlt
        go_cut [13, 14] (fun v13 v14 wc => ∃ gx : Nat, v13 = .pointer (some ⟨gx, 0, none⟩) ∧ v14 = .int .i64 r3 ∧ Aside0 (SpNext w wc gm gb gx (some ad) c5 B (costs es) own (es.map cv) A es.length c es'))
        case first =>
          go_region_held3 (fun w' => w'.cell? ⟨gm, 0, none⟩ = some (.int .i64 B) ∧ w'.cell? ⟨gm, 1, none⟩ = some (.slice A es.length c) ∧ w'.cell? (ad.add i.toNat) = some (.int .i64 (rd own i))) ((first | assumption | exact HI6.out.S3 i h0i hi1 | exact HI6.out.drew.S3 i h0i hi1 | exact (HI6.out.below (below_alloc (Below.refl _ _) _)).drew.S3 i h0i hi1 | exact (HI6.out.drew.below (below_alloc (Below.refl _ _) _)).S3 i h0i hi1 | exact HI7.out.S3 i h0i hi1 | exact (HI7.out.below (below_alloc (Below.refl _ _) _)).S3 i h0i hi1 | exact HI8.out.S3 i h0i hi1 | exact (HI8.out.box BX8.out (by first | exact HGX.out) _ _).S3 i h0i hi1 | exact (HI8.out.below (below_alloc (Below.refl _ _) _)).S3 i h0i hi1 | exact ((HI8.out.box BX8.out HGX.out _ _).box (blk_set BX8.out _ _) HGX.out _ _).S3 i h0i hi1 | exact (HI8.out.below (by repeat (first | exact Below.refl _ _ | apply below_alloc | refine below_set ?_ (Nat.le_refl _)))).S3 i h0i hi1)) (first | (go_at_call 21; refine (intervalmonref17_Step.calls (rd own i) s _ HS.out).mono ?_; rintro e w7 ⟨rfl, hb7⟩; have HI7 := Aside0.mk ((HI6.out.below (by repeat (first | exact Below.refl _ _ | apply below_drew1 | apply below_alloc))).below hb7); have HG7 := Aside0.mk (Nat.lt_of_lt_of_le HGL.out (by have := hb7.size; simp at this; omega) : gm < w7.heap.size); (try (have BX7 := Aside0.mk (blk_below (blk_drew (blk_new w6 (.cells #[.int .i64 0, .slice none 0 0] 25))) hb7); have HGX7 := HGL)); clear hb7) | (go_at_call 20; refine (intervalmonref17_Spend.calls ks B (ofT _ 34) (.slice A es.length c) es s cost B es' r3 w _ (HI7.out.below (by repeat (first | exact Below.refl _ _ | apply below_alloc))).bel (R34_typed (HI7.out.below (by repeat (first | exact Below.refl _ _ | apply below_alloc))).rowm) HKS.out).mono ?_; rintro e w8 ⟨v8, rfl, hR8, hB8, hK8⟩; obtain ⟨A8, c8, rfl⟩ := Kd.R_slice hR8; have HI8 := Aside0.mk ((HI7.out.below (by repeat (first | exact Below.refl _ _ | apply below_alloc))).mid hB8 hK8); have HR8 := Aside0.mk (Kd.R_mono (ok' := fun _ => True) hR8 (fun _ _ => trivial)); (try (have BX8 := Aside0.mk (blk_kept BX7.out hK8 (fun h => ofT_ne h ⟨_, BX7.out⟩ (by decide))); have HGX := HGX7)); (try (have BX8 := Aside0.mk (blk_kept (blk_new w7 (.cells #[.int .i64 0, .slice none 0 0] 25)) hK8 (fun h => ofT_ne h ⟨_, blk_new w7 (.cells #[.int .i64 0, .slice none 0 0] 25)⟩ (by decide))); have HGX := HG7)); (try (have hbx0 := (blk_cell BX8.out 0); have hbx1 := (blk_cell BX8.out 1); have hbf0 := blk_frozen BX8.out 0; have hbf1 := blk_frozen BX8.out 1; simp only [List.getElem?_toArray, List.getElem?_cons_zero, List.getElem?_cons_succ] at hbx0 hbx1)); clear hR8 hB8 hK8))
          all_goals
            go_wp2
            go_meet
            case rel =>
              refine ⟨_, rfl, rfl, ⟨SpNext.mk (A8 := A8) (c8 := c8) ?_ ?_ ?_ ?_⟩⟩
              · first | exact (HI8.out.box BX8.out HGX.out _ _).box (blk_set BX8.out _ _) HGX.out _ _ | exact HI8.out.below (by repeat (first | exact Below.refl _ _ | apply below_alloc | refine below_set ?_ (Nat.le_refl _)))
              · first | exact HGX.out | exact blk_lt HI8.out.blkm
              · first | exact blk_put (blk_put BX8.out 0 _ rfl) 1 _ rfl | exact blk_new _ _ | exact blk_put (blk_put (blk_new _ _) 0 _ rfl) 1 _ rfl
              · first | exact Kd.R_set (Kd.R_set HR8.out BX8.out (by decide) 0 _) (blk_set BX8.out _ _) (by decide) 1 _ | exact Kd.R_below HR8.out (by repeat (first | exact Below.refl _ _ | apply below_alloc | refine below_set ?_ (Nat.le_refl _)))
        case rest =>
          obtain ⟨gx, rfl, rfl, HN⟩ := hcut
          have hn := HN.out
          unfold SpNext at hn
          obtain ⟨hmid, hgx, A8, c8, hbx, hrx⟩ := hn
          have HMI := Aside0.mk hmid
          have HGX := Aside0.mk hgx
          have HBX := Aside0.mk hbx
          have HRX := Aside0.mk hrx
          have hd := (hmid.S3 i h0i hi1).2.2
          clear hmid hgx hbx hrx HN HI6
          go_wp2_with fail
          refine (intervalmonref17_Step.calls (rd own i) s _ HS.out).mono ?_
          rintro e w9 ⟨rfl, hb9⟩
          have HM9 := Aside0.mk (HMI.out.below hb9)
          have HBX9 := Aside0.mk (blk_below HBX.out hb9)
          have HRX9 := Aside0.mk (Kd.R_below HRX.out hb9)
          clear hb9 hd HMI HBX HRX
          have hsg := costs_nn es HG.out.1.nn
          have hsl := HG.out.1.le
          have HSG := Aside0.mk (And.intro hsg hsl)
          clear hsg hsl
          go_wp2_with fail
          refine (Spend.calls_as w _ _ gb B (costs es) (es.map cv) s cost r3 (costs es') (es'.map cv) HSP.out HM9.out.bel HM9.out.lb.typed HSG.out.1 HSG.out.2 (by omega) (by have := HG.out.2; simp; omega)).mono ?_
          rintro e w10 ⟨rfl, HL10, HB10, HK10⟩
          have HM10 := Aside0.mk (HM9.out.spend HB10.out HK10.out HL10.out)
          have HBX10 := Aside0.mk (blk_kept HBX9.out HK10.out (fun h => h.elim (fun h => ofT_ne h ⟨_, HBX9.out⟩ (by decide)) (fun h => ofT_ne h ⟨_, HBX9.out⟩ (by decide))))
          have HRX10 := Aside0.mk (Kd.R_mono (Kd.R_kept (R34_typed HRX9.out) HK10.out (fun k h1 h => h.elim (fun h => ofT_ne h1 h (by decide)) (fun h => ofT_ne h1 h (by decide)))) (fun _ _ => trivial) : Kd.R k34 34 w10 w.heap.size (fun _ => True) (.slice A8 es'.length c8) es')
          clear HL10 HB10 HK10 HM9 HBX9 HRX9
          have hx0 : w10.cell? ⟨gx, 0, none⟩ = some (.int .i64 B) := (blk_cell HBX10.out 0).trans rfl
          have hx1 : w10.cell? ⟨gx, 1, none⟩ = some (.slice A8 es'.length c8) := (blk_cell HBX10.out 1).trans rfl
          have hm0 : w10.cell? ⟨gm, 0, none⟩ = some (.int .i64 B) := (blk_cell HM10.out.blkm 0).trans rfl
          have hm1 : w10.cell? ⟨gm, 1, none⟩ = some (.slice A es.length c) := (blk_cell HM10.out.blkm 1).trans rfl
          have hf0 := blk_frozen HM10.out.blkm 0
          have hf1 := blk_frozen HM10.out.blkm 1
          go_upto_region 16 with (fail)
          have HI11 := Aside0.mk (HM10.out.put HRX10.out rfl rfl)
          clear hx0 hx1 hm0 hm1 hf0 hf1
          generalize (w10.setCell ⟨gm, 0, none⟩ (.int .i64 B)).setCell ⟨gm, 1, none⟩ (.slice A8 es'.length c8) = w11 at HI11 ⊢
          clear HM10 HBX10 HRX10
          obtain ⟨kt, hkt⟩ := Ev.rounds (spent_ev B es' HG2.out.nn (by have := HG2.out.le; omega) (by have := HG3.out; have := HG.out.2; omega))
          obtain ⟨ku, hku⟩ := Ev.rounds (same_ev es' (by have := HG3.out; have := HG.out.2; omega))
          have HKT := Aside0.mk hkt
          have hsg := costs_nn es' HG2.out.nn
          have hsl := HG2.out.le
          have hlb' : (es'.map cv).length ≤ 100 := by have := HG3.out; have := HG.out.2; simp; omega
          have HLB' := Aside0.mk hlb'
          obtain ⟨S', hS'⟩ : ∃ S', costs es' = S' := ⟨_, rfl⟩
          obtain ⟨esb, hesb⟩ : ∃ e, es'.map cv = e := ⟨_, rfl⟩
          rw [hS'] at hsg hsl HKT
          rw [hesb] at hku HLB'
          have HKU := Aside0.mk hku
          have HSS := Aside0.mk hS'
          have HES := Aside0.mk hesb
          clear hkt hku hS' hesb hlb'
          have hc0 : w11.cell? ⟨gm, 0, none⟩ = some (.int .i64 B) := (blk_cell HI11.out.blkm 0).trans rfl
          have hc1 : w11.cell? ⟨gm, 1, none⟩ = some (.slice A8 es'.length c8) := (blk_cell HI11.out.blkm 1).trans rfl
          go_wp2_with fail
          refine (intervalmonref17_Spent.calls kt B A8 c8 es' S' w11 (Kd.R_reads' HI11.out.rowm).2.2 (Kd.R_reads' HI11.out.rowm).2.1 HKT.out).mono ?_
          rintro e w12 ⟨rfl, hb12⟩
          have HI12 := Aside0.mk (HI11.out.below hb12)
          clear hc0 hc1 hb12 HI11
          have hc0 : w12.cell? ⟨gm, 0, none⟩ = some (.int .i64 B) := (blk_cell HI12.out.blkm 0).trans rfl
          have hc1 : w12.cell? ⟨gm, 1, none⟩ = some (.slice A8 es'.length c8) := (blk_cell HI12.out.blkm 1).trans rfl
          have hL12 := HI12.out.lb
          rw [HSS.out, HES.out] at hL12
          have HL12 := Aside0.mk hL12
          have HC12 := Aside0.mk (Kd.R_reads' HI12.out.rowm).2.2
          have HCc := Aside0.mk (Kd.R_reads' HI12.out.rowm).2.1
          clear hL12
          have hw1 : IntKind.i64.wrap (B - S') = B - S' := IntWalk.i64_in _ (by omega)
          go_upto_region 17 with (fail)
          go_region_held3 (fun w' => w'.cell? ⟨gm, 0, none⟩ = some (.int .i64 B) ∧ w'.cell? ⟨gm, 1, none⟩ = some (.slice A8 es'.length c8) ∧ Led w.heap.size (fun _ => True) w' gb B S' esb ∧ Kd.C k34 w' A8 es'.length es' ∧ Below w12.heap.size w12 w') ((first | assumption | exact ⟨hc0, hc1, HL12.out, HC12.out, Below.refl _ _⟩ | exact H2_drew ⟨hc0, hc1, HL12.out, HC12.out, Below.refl _ _⟩ | exact H2_below (by assumption) (by assumption) | exact H2_drewN (by assumption) _ | exact H2_drewN ⟨hc0, hc1, HL12.out, HC12.out, Below.refl _ _⟩ _)) (first | (go_at_call 17; refine (Spent.calls _ _ _ _ _ _ _ (And.left (And.right (And.right (by assumption))))).mono ?_; rintro e w7 ⟨rfl, rfl⟩) | (go_at_call 14; refine (Left.calls _ _ _ _ _ _ _ (And.left (And.right (And.right (by assumption)))) hsg hsl (by omega)).mono ?_; rintro e w' ⟨rfl, n, rfl⟩) | (go_at_call 18; refine (Entries.calls _ _ _ _ _ _ _ (And.left (And.right (And.right (by assumption)))) (by have := HLB'.out; omega)).mono ?_; rintro e w5 ⟨v5, rfl, hR5, hb5⟩; obtain ⟨A5, c5, rfl⟩ := Kd.R_slice hR5) | (go_at_call 22; refine (intervalmonlaw17_same.calls ku A5 c5 esb A8 c8 es' true _ (Kd.R_reads' hR5).2.2 (Kd.R_reads' hR5).2.1 (And.left (And.right (And.right (And.right (by assumption))))) HCc.out HKU.out).mono ?_; rintro e w6 ⟨rfl, n6, rfl⟩))
          all_goals
            go_wp2
            go_roundg k1
            case measure => omega
            case rel => exact ⟨i + 2, es', A8, c8, rfl, ⟨by have := Hi.out; omega⟩, ⟨⟨HG2.out, by have := HG3.out; have := HG.out.2; omega⟩⟩, ⟨HI12.out.below (H2_end (by assumption))⟩⟩
      · go_upto_region 12 with (fail)
        obtain ⟨w6, rfl⟩ : ∃ w6, w6 = wr := ⟨_, rfl⟩
        have HI6 := HI
        clear HI hd1 h2
        generalize hcost : rd own (i + 1) = cost
        clear hcost
        obtain ⟨ks, hks⟩ := Ev.rounds (spend_ev B es s cost HG.out.1 (by have := HG.out.2; omega))
        obtain ⟨g1, g2, g3⟩ := HG.out.1.rsp s cost
        have hsp := sp_rsp B es s cost
        obtain ⟨B', es', r3, hr⟩ : ∃ B' es' r3, rsp B es s cost = (B', es', r3) := ⟨_, _, _, rfl⟩
        rw [hr] at hks g1 g2 g3 hsp
        obtain rfl : B = B' := g1.symm
        have HKS := Aside0.mk hks
        have HG2 := Aside0.mk g2
        have HG3 := Aside0.mk g3
        have HSP := Aside0.mk hsp
        clear hks g2 g3 hsp hr
        have hgmlt : gm < w6.heap.size := blk_lt HI6.out.blkm
        have HGL := Aside0.mk hgmlt
        clear hgmlt
        go_cut [13, 14] (fun v13 v14 wc => ∃ gx : Nat, v13 = .pointer (some ⟨gx, 0, none⟩) ∧ v14 = .int .i64 r3 ∧ Aside0 (SpNext w wc gm gb gx (some ad) c5 B (costs es) own (es.map cv) A es.length c es'))
        case first =>
          go_region_held3 (fun w' => w'.cell? ⟨gm, 0, none⟩ = some (.int .i64 B) ∧ w'.cell? ⟨gm, 1, none⟩ = some (.slice A es.length c) ∧ w'.cell? (ad.add i.toNat) = some (.int .i64 (rd own i))) ((first | assumption | exact HI6.out.S3 i h0i hi1 | exact HI6.out.drew.S3 i h0i hi1 | exact (HI6.out.below (below_alloc (Below.refl _ _) _)).drew.S3 i h0i hi1 | exact (HI6.out.drew.below (below_alloc (Below.refl _ _) _)).S3 i h0i hi1 | exact HI7.out.S3 i h0i hi1 | exact (HI7.out.below (below_alloc (Below.refl _ _) _)).S3 i h0i hi1 | exact HI8.out.S3 i h0i hi1 | exact (HI8.out.box BX8.out (by first | exact HGX.out) _ _).S3 i h0i hi1 | exact (HI8.out.below (below_alloc (Below.refl _ _) _)).S3 i h0i hi1 | exact ((HI8.out.box BX8.out HGX.out _ _).box (blk_set BX8.out _ _) HGX.out _ _).S3 i h0i hi1 | exact (HI8.out.below (by repeat (first | exact Below.refl _ _ | apply below_alloc | refine below_set ?_ (Nat.le_refl _)))).S3 i h0i hi1)) (first | (go_at_call 21; refine (intervalmonref17_Step.calls (rd own i) s _ HS.out).mono ?_; rintro e w7 ⟨rfl, hb7⟩; have HI7 := Aside0.mk ((HI6.out.below (by repeat (first | exact Below.refl _ _ | apply below_drew1 | apply below_alloc))).below hb7); have HG7 := Aside0.mk (Nat.lt_of_lt_of_le HGL.out (by have := hb7.size; simp at this; omega) : gm < w7.heap.size); (try (have BX7 := Aside0.mk (blk_below (blk_drew (blk_new w6 (.cells #[.int .i64 0, .slice none 0 0] 25))) hb7); have HGX7 := HGL)); clear hb7) | (go_at_call 20; refine (intervalmonref17_Spend.calls ks B (ofT _ 34) (.slice A es.length c) es s cost B es' r3 w _ (HI7.out.below (by repeat (first | exact Below.refl _ _ | apply below_alloc))).bel (R34_typed (HI7.out.below (by repeat (first | exact Below.refl _ _ | apply below_alloc))).rowm) HKS.out).mono ?_; rintro e w8 ⟨v8, rfl, hR8, hB8, hK8⟩; obtain ⟨A8, c8, rfl⟩ := Kd.R_slice hR8; have HI8 := Aside0.mk ((HI7.out.below (by repeat (first | exact Below.refl _ _ | apply below_alloc))).mid hB8 hK8); have HR8 := Aside0.mk (Kd.R_mono (ok' := fun _ => True) hR8 (fun _ _ => trivial)); (try (have BX8 := Aside0.mk (blk_kept BX7.out hK8 (fun h => ofT_ne h ⟨_, BX7.out⟩ (by decide))); have HGX := HGX7)); (try (have BX8 := Aside0.mk (blk_kept (blk_new w7 (.cells #[.int .i64 0, .slice none 0 0] 25)) hK8 (fun h => ofT_ne h ⟨_, blk_new w7 (.cells #[.int .i64 0, .slice none 0 0] 25)⟩ (by decide))); have HGX := HG7)); (try (have hbx0 := (blk_cell BX8.out 0); have hbx1 := (blk_cell BX8.out 1); have hbf0 := blk_frozen BX8.out 0; have hbf1 := blk_frozen BX8.out 1; simp only [List.getElem?_toArray, List.getElem?_cons_zero, List.getElem?_cons_succ] at hbx0 hbx1)); clear hR8 hB8 hK8))
          all_goals
            go_wp2
            go_meet
            case rel =>
              refine ⟨_, rfl, rfl, ⟨SpNext.mk (A8 := A8) (c8 := c8) ?_ ?_ ?_ ?_⟩⟩
              · first | exact (HI8.out.box BX8.out HGX.out _ _).box (blk_set BX8.out _ _) HGX.out _ _ | exact HI8.out.below (by repeat (first | exact Below.refl _ _ | apply below_alloc | refine below_set ?_ (Nat.le_refl _)))
              · first | exact HGX.out | exact blk_lt HI8.out.blkm
              · first | exact blk_put (blk_put BX8.out 0 _ rfl) 1 _ rfl | exact blk_new _ _ | exact blk_put (blk_put (blk_new _ _) 0 _ rfl) 1 _ rfl
              · first | exact Kd.R_set (Kd.R_set HR8.out BX8.out (by decide) 0 _) (blk_set BX8.out _ _) (by decide) 1 _ | exact Kd.R_below HR8.out (by repeat (first | exact Below.refl _ _ | apply below_alloc | refine below_set ?_ (Nat.le_refl _)))
        case rest =>
          obtain ⟨gx, rfl, rfl, HN⟩ := hcut
          have hn := HN.out
          unfold SpNext at hn
          obtain ⟨hmid, hgx, A8, c8, hbx, hrx⟩ := hn
          have HMI := Aside0.mk hmid
          have HGX := Aside0.mk hgx
          have HBX := Aside0.mk hbx
          have HRX := Aside0.mk hrx
          have hd := (hmid.S3 i h0i hi1).2.2
          clear hmid hgx hbx hrx HN HI6
          go_wp2_with fail
          refine (intervalmonref17_Step.calls (rd own i) s _ HS.out).mono ?_
          rintro e w9 ⟨rfl, hb9⟩
          have HM9 := Aside0.mk (HMI.out.below hb9)
          have HBX9 := Aside0.mk (blk_below HBX.out hb9)
          have HRX9 := Aside0.mk (Kd.R_below HRX.out hb9)
          clear hb9 hd HMI HBX HRX
          have hsg := costs_nn es HG.out.1.nn
          have hsl := HG.out.1.le
          have HSG := Aside0.mk (And.intro hsg hsl)
          clear hsg hsl
          go_wp2_with fail
          refine (Spend.calls_as w _ _ gb B (costs es) (es.map cv) s cost r3 (costs es') (es'.map cv) HSP.out HM9.out.bel HM9.out.lb.typed HSG.out.1 HSG.out.2 (by omega) (by have := HG.out.2; simp; omega)).mono ?_
          rintro e w10 ⟨rfl, HL10, HB10, HK10⟩
          have HM10 := Aside0.mk (HM9.out.spend HB10.out HK10.out HL10.out)
          have HBX10 := Aside0.mk (blk_kept HBX9.out HK10.out (fun h => h.elim (fun h => ofT_ne h ⟨_, HBX9.out⟩ (by decide)) (fun h => ofT_ne h ⟨_, HBX9.out⟩ (by decide))))
          have HRX10 := Aside0.mk (Kd.R_mono (Kd.R_kept (R34_typed HRX9.out) HK10.out (fun k h1 h => h.elim (fun h => ofT_ne h1 h (by decide)) (fun h => ofT_ne h1 h (by decide)))) (fun _ _ => trivial) : Kd.R k34 34 w10 w.heap.size (fun _ => True) (.slice A8 es'.length c8) es')
          clear HL10 HB10 HK10 HM9 HBX9 HRX9
          have hx0 : w10.cell? ⟨gx, 0, none⟩ = some (.int .i64 B) := (blk_cell HBX10.out 0).trans rfl
          have hx1 : w10.cell? ⟨gx, 1, none⟩ = some (.slice A8 es'.length c8) := (blk_cell HBX10.out 1).trans rfl
          have hm0 : w10.cell? ⟨gm, 0, none⟩ = some (.int .i64 B) := (blk_cell HM10.out.blkm 0).trans rfl
          have hm1 : w10.cell? ⟨gm, 1, none⟩ = some (.slice A es.length c) := (blk_cell HM10.out.blkm 1).trans rfl
          have hf0 := blk_frozen HM10.out.blkm 0
          have hf1 := blk_frozen HM10.out.blkm 1
          go_upto_region 16 with (fail)
          have HI11 := Aside0.mk (HM10.out.put HRX10.out rfl rfl)
          clear hx0 hx1 hm0 hm1 hf0 hf1
          generalize (w10.setCell ⟨gm, 0, none⟩ (.int .i64 B)).setCell ⟨gm, 1, none⟩ (.slice A8 es'.length c8) = w11 at HI11 ⊢
          clear HM10 HBX10 HRX10
          obtain ⟨kt, hkt⟩ := Ev.rounds (spent_ev B es' HG2.out.nn (by have := HG2.out.le; omega) (by have := HG3.out; have := HG.out.2; omega))
          obtain ⟨ku, hku⟩ := Ev.rounds (same_ev es' (by have := HG3.out; have := HG.out.2; omega))
          have HKT := Aside0.mk hkt
          have hsg := costs_nn es' HG2.out.nn
          have hsl := HG2.out.le
          have hlb' : (es'.map cv).length ≤ 100 := by have := HG3.out; have := HG.out.2; simp; omega
          have HLB' := Aside0.mk hlb'
          obtain ⟨S', hS'⟩ : ∃ S', costs es' = S' := ⟨_, rfl⟩
          obtain ⟨esb, hesb⟩ : ∃ e, es'.map cv = e := ⟨_, rfl⟩
          rw [hS'] at hsg hsl HKT
          rw [hesb] at hku HLB'
          have HKU := Aside0.mk hku
          have HSS := Aside0.mk hS'
          have HES := Aside0.mk hesb
          clear hkt hku hS' hesb hlb'
          have hc0 : w11.cell? ⟨gm, 0, none⟩ = some (.int .i64 B) := (blk_cell HI11.out.blkm 0).trans rfl
          have hc1 : w11.cell? ⟨gm, 1, none⟩ = some (.slice A8 es'.length c8) := (blk_cell HI11.out.blkm 1).trans rfl
          go_wp2_with fail
          refine (intervalmonref17_Spent.calls kt B A8 c8 es' S' w11 (Kd.R_reads' HI11.out.rowm).2.2 (Kd.R_reads' HI11.out.rowm).2.1 HKT.out).mono ?_
          rintro e w12 ⟨rfl, hb12⟩
          have HI12 := Aside0.mk (HI11.out.below hb12)
          clear hc0 hc1 hb12 HI11
          have hc0 : w12.cell? ⟨gm, 0, none⟩ = some (.int .i64 B) := (blk_cell HI12.out.blkm 0).trans rfl
          have hc1 : w12.cell? ⟨gm, 1, none⟩ = some (.slice A8 es'.length c8) := (blk_cell HI12.out.blkm 1).trans rfl
          have hL12 := HI12.out.lb
          rw [HSS.out, HES.out] at hL12
          have HL12 := Aside0.mk hL12
          have HC12 := Aside0.mk (Kd.R_reads' HI12.out.rowm).2.2
          have HCc := Aside0.mk (Kd.R_reads' HI12.out.rowm).2.1
          clear hL12
          have hw1 : IntKind.i64.wrap (B - S') = B - S' := IntWalk.i64_in _ (by omega)
          go_upto_region 17 with (fail)
          go_region_held3 (fun w' => w'.cell? ⟨gm, 0, none⟩ = some (.int .i64 B) ∧ w'.cell? ⟨gm, 1, none⟩ = some (.slice A8 es'.length c8) ∧ Led w.heap.size (fun _ => True) w' gb B S' esb ∧ Kd.C k34 w' A8 es'.length es' ∧ Below w12.heap.size w12 w') ((first | assumption | exact ⟨hc0, hc1, HL12.out, HC12.out, Below.refl _ _⟩ | exact H2_drew ⟨hc0, hc1, HL12.out, HC12.out, Below.refl _ _⟩ | exact H2_below (by assumption) (by assumption) | exact H2_drewN (by assumption) _ | exact H2_drewN ⟨hc0, hc1, HL12.out, HC12.out, Below.refl _ _⟩ _)) (first | (go_at_call 17; refine (Spent.calls _ _ _ _ _ _ _ (And.left (And.right (And.right (by assumption))))).mono ?_; rintro e w7 ⟨rfl, rfl⟩) | (go_at_call 14; refine (Left.calls _ _ _ _ _ _ _ (And.left (And.right (And.right (by assumption)))) hsg hsl (by omega)).mono ?_; rintro e w' ⟨rfl, n, rfl⟩) | (go_at_call 18; refine (Entries.calls _ _ _ _ _ _ _ (And.left (And.right (And.right (by assumption)))) (by have := HLB'.out; omega)).mono ?_; rintro e w5 ⟨v5, rfl, hR5, hb5⟩; obtain ⟨A5, c5, rfl⟩ := Kd.R_slice hR5) | (go_at_call 22; refine (intervalmonlaw17_same.calls ku A5 c5 esb A8 c8 es' true _ (Kd.R_reads' hR5).2.2 (Kd.R_reads' hR5).2.1 (And.left (And.right (And.right (And.right (by assumption))))) HCc.out HKU.out).mono ?_; rintro e w6 ⟨rfl, n6, rfl⟩))
          all_goals
            go_wp2
            go_roundg k1
            case measure => omega
            case rel => exact ⟨i + 2, es', A8, c8, rfl, ⟨by have := Hi.out; omega⟩, ⟨⟨HG2.out, by have := HG3.out; have := HG.out.2; omega⟩⟩, ⟨HI12.out.below (H2_end (by assumption))⟩⟩
    · have hge : (own.length : Int) ≤ i + 1 := by omega
      have hi60 : i ≤ 60 := Hi.out.2.2
      have HBE := Aside0.mk HI.out.bel
      have HDI := Aside0.mk Hi.out.1
      go_wp2_with fail
      refine (lives.calls _).mono ?_
      rintro e w9 ⟨rfl, hb9⟩
      have HF := Aside0.mk (below_step HBE.out hb9)
      clear hb9
      go_wp2
      go_ret
      exact ⟨rfl, HF.out⟩
def intervalmonlaw17_BudgetSpend.f (a0 : Int) (l1 : List Int) (a2 : Int) : Option Bool := if inIb a0 = true ∧ l1.all inIb = true ∧ l1.length ≤ 4611686018427387904 ∧ inIb a2 = true then some true else none
theorem intervalmonlaw17_BudgetSpend.calls (a0 : Int) (A1 : Option Addr) (c1 : Nat) (l1 : List Int) (a2 : Int) (r : Bool) (w : World) (hr1 : Kd.C (Kd.int .i64) w A1 l1.length l1) (hc1 : l1.length ≤ c1) (h : intervalmonlaw17_BudgetSpend.f a0 l1 a2 = some r) :
    Calls Try.prog 5 #[.int .i64 a0, .slice A1 l1.length c1, .int .i64 a2] w fun e w' => e = .returned (.bool r) ∧ Below w.heap.size w w' := by
  unfold intervalmonlaw17_BudgetSpend.f at h
  split at h
  · rename_i hh
    obtain rfl : true = r := by injection h
    exact BudgetSpend.calls a0 A1 c1 l1 a2 w hr1 hc1 (inIb_iff.1 hh.1) (fun x hx => inIb_iff.1 (List.all_eq_true.1 hh.2.1 x hx)) hh.2.2.1 (inIb_iff.1 hh.2.2.2)
  · cases h
end Go.Proofs.Ytbhcnbfgaiejaaa.PBud

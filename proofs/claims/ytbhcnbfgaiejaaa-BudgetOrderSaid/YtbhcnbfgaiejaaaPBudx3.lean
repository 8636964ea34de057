import Derived.Test.YtbhcnbfgaiejaaaBudV
import Derived.Test.YtbhcnbfgaiejaaaBudP
namespace Go.Proofs.Ytbhcnbfgaiejaaa.PBud
open Go.RowKit Go.Proofs.YtbhcnbfgaiejaaaW.PrintWords Go.Proofs.YtbhcnbfgaiejaaaW.PrintLast Go.Proofs.YtbhcnbfgaiejaaaW.PrintMore
open Go.Proofs.Ytbhcnbfgaiejaaa.Bud
set_option linter.unusedVariables false
set_option linter.unusedSimpArgs false
attribute [local go_sem] max2_int min2_int max_two min_two max_three min_three max_four min_four
structure OrdInv (w W : World) (gm gb gc : Nat) (A : Option Addr) (c : Nat) (B C S : Int) (es p q : List S34) (rf : Bool) (i Sc : Int) (esb esc : List S48) (Fb Fc : Nat → Prop) : Prop where
  split : es = p ++ q
  i_eq : i = (p.length : Int) - 1
  blkm : W.heap[gm]? = some (.cells #[.int .i64 B, .slice A es.length c] 25 (0, 0))
  row : Kd.R k34 34 W w.heap.size (fun k => k < gb) (.slice A es.length c) es
  bel : Below w.heap.size w W
  lb : Led w.heap.size Fb W gb B (costs q) esb
  lc : Led w.heap.size Fc W gc C Sc esc
  fb : ∀ k, Fb k → gb ≤ k ∧ ¬ Fc k
  fc : ∀ k, Fc k → gb ≤ k
  eb : esb.length ≤ q.length
  ec : esc.length ≤ q.length
  sc0 : 0 ≤ Sc
  sc1 : Sc ≤ C
  rf0 : rf = false → Sc = costs q
  rf1 : rf = true → 0 < S
theorem Led.drewN {base : Nat} {F : Nat → Prop} {W : World} {g : Nat} {B S : Int} {es : List S48} (h : Led base F W g B S es) (n : Nat) : Led base F (W.drewN n) g B S es := h.below (pw_below_drewN (Below.refl _ _) n)
theorem Led.drew {base : Nat} {F : Nat → Prop} {W : World} {g : Nat} {B S : Int} {es : List S48} (h : Led base F W g B S es) : Led base F W.drew g B S es := h.below (below_drew1 (Below.refl _ _))
theorem held_drewN {base : Nat} {F : Nat → Prop} {w W : World} {g : Nat} {B S : Int} {es : List S48} {a : Addr} {v : Value} (h : W.cell? a = some v ∧ Led base F W g B S es ∧ Below w.heap.size w W) (n : Nat) : (W.drewN n).cell? a = some v ∧ Led base F (W.drewN n) g B S es ∧ Below w.heap.size w (W.drewN n) := ⟨h.1, h.2.1.drewN n, pw_below_drewN h.2.2 n⟩
theorem held_drew {base : Nat} {F : Nat → Prop} {w W : World} {g : Nat} {B S : Int} {es : List S48} {a : Addr} {v : Value} (h : W.cell? a = some v ∧ Led base F W g B S es ∧ Below w.heap.size w W) : W.drew.cell? a = some v ∧ Led base F W.drew g B S es ∧ Below w.heap.size w W.drew := ⟨h.1, h.2.1.drew, below_drew1 h.2.2⟩
theorem held_below {base : Nat} {F : Nat → Prop} {w W W2 : World} {g : Nat} {B S : Int} {es : List S48} {a : Addr} {v : Value} (h : W.cell? a = some v ∧ Led base F W g B S es ∧ Below w.heap.size w W) (hb : Below W.heap.size W W2) : W2.cell? a = some v ∧ Led base F W2 g B S es ∧ Below w.heap.size w W2 := ⟨(hb.cell (World.block_lt_of_cell? W _ h.1)).trans h.1, h.2.1.below hb, below_step h.2.2 hb⟩
theorem ord_fb {Fb Fc : Nat → Prop} {gb n m p : Nat} (fb : ∀ k, Fb k → gb ≤ k ∧ ¬ Fc k) (hn : gb < n) (hm : n ≤ m) : ∀ k, ((Fb k ∧ k < n) ∨ m ≤ k) ∧ k < p → gb ≤ k ∧ ¬ ((Fc k ∧ k < n) ∨ p ≤ k) := by
  rintro k ⟨h | h, hp⟩
  · exact ⟨(fb k h.1).1, fun h2 => h2.elim (fun h3 => (fb k h.1).2 h3.1) (fun h3 => by omega)⟩
  · exact ⟨by omega, fun h2 => h2.elim (fun h3 => by omega) (fun h3 => by omega)⟩
theorem ord_fc {Fc : Nat → Prop} {gb n p : Nat} (fc : ∀ k, Fc k → gb ≤ k) (hn : gb < n) (hm : n ≤ p) : ∀ k, (Fc k ∧ k < n) ∨ p ≤ k → gb ≤ k := by
  rintro k (h | h)
  · exact fc k h.1
  · omega
theorem held_end {base : Nat} {F : Nat → Prop} {w W : World} {g : Nat} {B S : Int} {es : List S48} {a : Addr} {v : Value} (h : W.cell? a = some v ∧ Led base F W g B S es ∧ Below w.heap.size w W) : Below w.heap.size w W := h.2.2
set_option maxRecDepth 100000 in
set_option maxHeartbeats 8000000 in
theorem BudgetOrder.calls (a0 : Int) (A1 : Option Addr) (c1 : Nat) (l1 : List Int) (a2 : Int) (w : World) (hr1 : Kd.C (Kd.int .i64) w A1 l1.length l1) (hc1 : l1.length ≤ c1) (h0 : inI a0) (h1 : ∀ x ∈ l1, inI x) (hll : l1.length ≤ 4611686018427387904) (h2 : inI a2) :
    Calls Try.prog 3 #[.int .i64 a0, .slice A1 l1.length c1, .int .i64 a2] w fun e w' => e = .returned (.bool true) ∧ Below w.heap.size w w' := by
  obtain ⟨B, es, hof, hg, hle12, hB200⟩ := of_ev a0 l1 h0 h1 hll
  obtain ⟨k, hk⟩ := Ev.rounds hof
  have hnn := costs_nn es hg.nn
  have hle := hg.le
  obtain ⟨k2, hk2⟩ := Ev.rounds (spent_ev B es hg.nn (by omega) (by omega))
  have har := around_ev a2 20 h2 (by omega)
  have hab := arV_bd a2 20 (by omega)
  have HC := Aside0.mk hr1
  have HCC := Aside0.mk hc1
  have HOF := Aside0.mk hk
  have HSP := Aside0.mk hk2
  have HAR := Aside0.mk har
  have HG := Aside0.mk hg
  have H12 := Aside0.mk hle12
  clear hr1 hc1 h0 h1 hll h2 hof hk hk2 har hg hle12
  obtain ⟨ar, har⟩ : ∃ ar, arV a2 20 = ar := ⟨_, rfl⟩
  obtain ⟨S, hS⟩ : ∃ S, costs es = S := ⟨_, rfl⟩
  rw [har] at hab HAR
  rw [hS] at hnn hle HSP
  have HS := Aside0.mk hS
  clear har hS
  have hu25 := Try.underlying25
  have hu34 := Try.underlying34
  go_enter Try.func3, Try.ntmps3
  go_wp2_with fail
  refine (intervalmonref17_Of.calls k a0 A1 c1 l1 B es w HC.out HCC.out HOF.out).mono ?_
  rintro e w1 ⟨v, rfl, hR, hb⟩
  obtain ⟨A, c, rfl⟩ := Kd.R_slice hR
  have HR1 := Aside0.mk hR
  have HB1 := Aside0.mk hb
  clear hR hb
  go_upto_region 2 with (fail)
  have hM := blk_new w1 (.cells #[.int .i64 B, .slice A es.length c] 25)
  have hR2 := Kd.R_alloc HR1.out (.cells #[.int .i64 B, .slice A es.length c] 25)
  have hB2 := below_alloc HB1.out (.cells #[.int .i64 B, .slice A es.length c] 25)
  have hgm : w.heap.size ≤ w1.heap.size := below_size HB1.out
  generalize w1.alloc (.cells #[.int .i64 B, .slice A es.length c] 25) = w2 at hM hR2 hB2 ⊢
  generalize w1.heap.size = gm at hM hgm ⊢
  clear HR1 HB1
  have HM2 := Aside0.mk hM
  have HR2 := Aside0.mk hR2
  have HB2 := Aside0.mk hB2
  have HGM := Aside0.mk hgm
  clear hM hR2 hB2 hgm
  have hc0 : w2.cell? ⟨gm, 0, none⟩ = some (.int .i64 B) := (blk_cell HM2.out 0).trans rfl
  have hc1 : w2.cell? ⟨gm, 1, none⟩ = some (.slice A es.length c) := (blk_cell HM2.out 1).trans rfl
  go_wp2_with fail
  refine (intervalmonref17_Spent.calls k2 B A c es S w2 (Kd.R_reads' HR2.out).2.2 (Kd.R_reads' HR2.out).2.1 HSP.out).mono ?_
  rintro e w3 ⟨rfl, hb⟩
  have HM3 := Aside0.mk (blk_below HM2.out hb)
  have HR3 := Aside0.mk (Kd.R_below HR2.out hb)
  have HB3 := Aside0.mk (below_step HB2.out hb)
  clear hb HM2 HR2 HB2 hc0 hc1
  have hc0 : w3.cell? ⟨gm, 0, none⟩ = some (.int .i64 B) := (blk_cell HM3.out 0).trans rfl
  have hc1 : w3.cell? ⟨gm, 1, none⟩ = some (.slice A es.length c) := (blk_cell HM3.out 1).trans rfl
  go_wp2_with fail
  refine (New.calls_ok w _ B HB3.out HG.out.b0 HG.out.b1).mono ?_
  rintro e w4 ⟨rfl, hL, hb⟩
  have hlm : gm < w3.heap.size := blk_lt HM3.out
  have HM4 := Aside0.mk (blk_below HM3.out hb)
  have HR4 := Aside0.mk (Kd.R_mono (Kd.R_below (Kd.R_bound HR3.out) hb) (fun k hk => hk.2.2.1) : Kd.R k34 34 w4 w.heap.size (fun k => k < w3.heap.size) (.slice A es.length c) es)
  have HB4 := Aside0.mk (below_step HB3.out hb)
  have HL4 := Aside0.mk hL.bound
  clear hL hb HM3 HR3 HB3 hc0 hc1
  generalize w3.heap.size = gb at *
  go_upto_region 4 with (fail)
  go_cut [11, 12] (fun v11 v12 wc => ∃ (C : Int) (gc : Nat), v11 = .pointer (some ⟨gc, 0, none⟩) ∧ v12 = .int .i64 0 ∧ Aside0 (0 ≤ C ∧ C ≤ 2147483648 ∧ (0 < S → C < S)) ∧ Aside0 (gb < gc) ∧ Aside0 (wc.heap[gm]? = some (.cells #[.int .i64 B, .slice A es.length c] 25 (0, 0))) ∧ Aside0 (Kd.R k34 34 wc w.heap.size (fun k => k < gb) (.slice A es.length c) es) ∧ Aside0 (Below w.heap.size w wc) ∧ Aside0 (Led w.heap.size (fun k => gb ≤ k ∧ k < gc) wc gb B 0 []) ∧ Aside0 (Led w.heap.size (fun k => gc ≤ k) wc gc C 0 []))
  case first =>
    go_wp2_with fail
    refine (intervalmonref01_Around.calls a2 20 ar _ HAR.out).mono ?_
    rintro e w5 ⟨rfl, n5, rfl⟩
    have hq : ∀ C : Int, (0 ≤ C ∧ C ≤ 2147483648 ∧ (0 < S → C < S)) → Calls Try.prog 11 #[.int .i64 C] (w4.drewN n5) fun e wc => ∃ (gc : Nat), e = .returned (.tuple #[.pointer (some ⟨gc, 0, none⟩), .int .i64 0]) ∧ Aside0 (gb < gc) ∧ Aside0 (wc.heap[gm]? = some (.cells #[.int .i64 B, .slice A es.length c] 25 (0, 0))) ∧ Aside0 (Kd.R k34 34 wc w.heap.size (fun k => k < gb) (.slice A es.length c) es) ∧ Aside0 (Below w.heap.size w wc) ∧ Aside0 (Led w.heap.size (fun k => gb ≤ k ∧ k < gc) wc gb B 0 []) ∧ Aside0 (Led w.heap.size (fun k => gc ≤ k) wc gc C 0 []) := by
      intro C hC
      refine (New.calls_ok w _ C (pw_below_drewN HB4.out n5) hC.1 hC.2.1).mono ?_
      rintro e w6 ⟨rfl, hL, hb⟩
      refine ⟨_, rfl, ⟨HL4.out.lt⟩, ⟨blk_below HM4.out (below_step (pw_below_drewN (Below.refl _ _) n5) hb)⟩, ⟨Kd.R_below HR4.out (below_step (pw_below_drewN (Below.refl _ _) n5) hb)⟩, ⟨below_step HB4.out (below_step (pw_below_drewN (Below.refl _ _) n5) hb)⟩, ⟨HL4.out.below (below_step (pw_below_drewN (Below.refl _ _) n5) hb)⟩, ⟨hL⟩⟩
    have HQ := Aside0.mk hq
    clear hq
    go_wp2_with fail
    all_goals
      refine (HQ.out _ (by omega)).mono ?_
      rintro e w6 ⟨gc, rfl, q1, q2, q3, q4, q5, q6⟩
      go_wp2
      go_meet
      case rel => exact ⟨_, gc, rfl, rfl, ⟨by omega⟩, q1, q2, q3, q4, q5, q6⟩
  case rest =>
    obtain ⟨C, gc, rfl, rfl, HC, HGC, HM, HR, HB, HLb, HLc⟩ := hcut
    clear HM4 HR4 HB4 HL4
    have hc0 : wc.cell? ⟨gm, 0, none⟩ = some (.int .i64 B) := (blk_cell HM.out 0).trans rfl
    have hc1 : wc.cell? ⟨gm, 1, none⟩ = some (.slice A es.length c) := (blk_cell HM.out 1).trans rfl
    have hln : (es.length : Int) ≤ 12 := by have := H12.out; omega
    go_wp2
    clear hc0 hc1
    go_loopg [13, 14] es.length (fun kq v13 v14 W => ∃ (p q : List S34) (rf : Bool) (i Sc : Int) (esb esc : List S48) (Fb Fc : Nat → Prop), v13 = .bool rf ∧ v14 = .int .i64 i ∧ Aside0 (p.length ≤ kq) ∧ Aside0 (OrdInv w W gm gb gc A c B C S es p q rf i Sc esb esc Fb Fc))
    case atStart => exact ⟨es, [], false, (es.length : Int) - 1, 0, [], [], _, _, rfl, rfl, ⟨Nat.le_refl _⟩, ⟨⟨by simp, rfl, HM.out, HR.out, HB.out, HLb.out, HLc.out, fun k hk => ⟨hk.1, by omega⟩, fun k hk => Nat.le_trans (Nat.le_of_lt HGC.out) hk, Nat.le_refl _, Nat.le_refl _, Int.le_refl _, HC.out.1, fun _ => rfl, fun h => by cases h⟩⟩⟩
    case round =>
      clear HM HR HB HLb HLc
      obtain ⟨p, q, rf, i, Sc, esb, esc, Fb, Fc, rfl, rfl, HK, HI⟩ := hrel
      rcases List.eq_nil_or_concat p with hp | ⟨p', x, hp⟩
      · subst hp
        have hi : i = -1 := by rw [HI.out.i_eq]; rfl
        subst hi
        have hc0 : wr.cell? ⟨gm, 0, none⟩ = some (.int .i64 B) := (blk_cell HI.out.blkm 0).trans rfl
        go_wp2
        clear hc0
        have hq0 : es = q := by have := HI.out.split; simpa using this
        have hcq : costs q = S := by rw [← hq0]; exact HS.out
        have hrf : rf = decide (0 < S) := by
          have h0 := HI.out.rf0
          have h1 := HI.out.rf1
          have h2 := HI.out.sc1
          have h3 := HC.out.2.2
          cases rf with
          | true => rw [decide_eq_true (h1 rfl)]
          | false =>
            have h4 := h0 rfl
            rw [hcq] at h4
            rw [decide_eq_false (by omega)]
        have hlb := HI.out.lb
        rw [hcq] at hlb
        have HLb := Aside0.mk hlb
        have HLn := Aside0.mk HI.out.eb
        have HBB := Aside0.mk HI.out.bel
        have HMM := Aside0.mk HI.out.blkm
        clear hq0 hcq hlb HI HK
        have hc0 : wr.cell? ⟨gm, 0, none⟩ = some (.int .i64 B) := (blk_cell HMM.out 0).trans rfl
        by_cases hpos : 0 < S
        · have hrt : rf = true := by rw [hrf, decide_eq_true hpos]
          subst hrt
          clear hrf
          have hw1 : IntKind.i64.wrap (B - S) = B - S := IntWalk.i64_in _ (by omega)
          go_region_held3 (fun w' => w'.cell? ⟨gm, 0, none⟩ = some (.int .i64 B) ∧ Led w.heap.size Fb w' gb B S esb ∧ Below w.heap.size w w') ((first | exact ⟨hc0, HLb.out, HBB.out⟩ | exact held_drew ⟨hc0, HLb.out, HBB.out⟩ | exact held_drewN ⟨hc0, HLb.out, HBB.out⟩ _ | exact held_below (by assumption) (by assumption))) (first | (go_at_call 14; refine (Left.calls _ _ _ _ _ _ _ (And.left (And.right (by assumption))) hnn hle (by omega)).mono ?_; rintro e w' ⟨rfl, n, rfl⟩) | (go_at_call 15; refine (lives.calls _).mono ?_; rintro e w' ⟨rfl, hb⟩))
          all_goals go_wp2
          all_goals go_ret
          all_goals exact ⟨rfl, held_end (by assumption)⟩
        · have hrt : rf = false := by rw [hrf, decide_eq_false hpos]
          subst hrt
          clear hrf
          have hw1 : IntKind.i64.wrap (B - S) = B - S := IntWalk.i64_in _ (by omega)
          go_region_held3 (fun w' => w'.cell? ⟨gm, 0, none⟩ = some (.int .i64 B) ∧ Led w.heap.size Fb w' gb B S esb ∧ Below w.heap.size w w') ((first | exact ⟨hc0, HLb.out, HBB.out⟩ | exact held_drew ⟨hc0, HLb.out, HBB.out⟩ | exact held_drewN ⟨hc0, HLb.out, HBB.out⟩ _ | exact held_below (by assumption) (by assumption))) (first | (go_at_call 14; refine (Left.calls _ _ _ _ _ _ _ (And.left (And.right (by assumption))) hnn hle (by omega)).mono ?_; rintro e w' ⟨rfl, n, rfl⟩) | (go_at_call 15; refine (lives.calls _).mono ?_; rintro e w' ⟨rfl, hb⟩))
          all_goals go_wp2
          all_goals go_ret
          all_goals exact ⟨congrArg (fun b => Ending.returned (.bool b)) (show (!decide (0 < S)) = true by rw [decide_eq_false (by omega)]; rfl), held_end (by assumption)⟩
      · rw [List.concat_eq_append] at hp
        subst hp
        have hi : i = (p'.length : Int) := by rw [HI.out.i_eq]; simp
        have hes : es = p' ++ x :: q := by rw [HI.out.split]; simp
        have h0i : 0 ≤ i := by omega
        have hil : i < (es.length : Int) := by rw [hes]; simp; omega
        have hrd : rd_T34 es i = x := by rw [hes, hi, rd_at]
        have hxok := HG.out.ok x (by rw [hes]; simp)
        obtain ⟨hx1, hx2, hx3⟩ := hxok
        have hcs : S = costs p' + x.f1 + costs q := by rw [← HS.out, hes, costs_append]; simp only [costs]; omega
        have hcp := costs_nn p' (fun y hy => (HG.out.ok y (by rw [hes]; simp [hy])).1)
        have hcq := costs_nn q (fun y hy => (HG.out.ok y (by rw [hes]; simp [hy])).1)
        obtain ⟨ad, eA, hc2, hc3⟩ := at_T34 (Kd.R_reads' HI.out.row).2.2 i h0i hil
        rw [hrd] at hc2 hc3
        have hc0 : wr.cell? ⟨gm, 0, none⟩ = some (.int .i64 B) := (blk_cell HI.out.blkm 0).trans rfl
        have hc1 : wr.cell? ⟨gm, 1, none⟩ = some (.slice A es.length c) := (blk_cell HI.out.blkm 1).trans rfl
        cases eA
        clear hrd
        have Hes := Aside0.mk hes
        have Hi := Aside0.mk hi
        have Hcs := Aside0.mk hcs
        have Hcp := Aside0.mk hcp
        have Hcq := Aside0.mk hcq
        have Hx := Aside0.mk (And.intro hx1 (And.intro hx2 hx3))
        have hcqB : costs q + x.f1 ≤ B := by omega
        have HcqB := Aside0.mk hcqB
        clear hes hi hcs hcp hcq hx1 hx2 hx3 hcqB
        have hLbB := HI.out.lb.bound
        have hLcB := HI.out.lc.bound
        have HLbB := Aside0.mk (hLbB.below (below_alloc (Below.refl _ _) (.cells #[.string x.f0, .int .i64 x.f1] 34)))
        have HLcB := Aside0.mk (hLcB.below (below_alloc (Below.refl _ _) (.cells #[.string x.f0, .int .i64 x.f1] 34)))
        clear hLbB hLcB
        cases gk with
        | zero => exact absurd HK.out (by simp)
        | succ k1 =>
        go_wp2_with fail
        refine (Spend.calls_as w _ _ gb B (costs q) esb x.f0 x.f1 0 (costs q + x.f1) (esb ++ [⟨x.f0, x.f1⟩]) (by have h1 := Hx.out; have h2 := HcqB.out; unfold sp; rw [if_neg (by omega), if_neg (by omega)]) (below_alloc HI.out.bel _) HLbB.out Hcq.out (by have h1 := Hx.out; have h2 := HcqB.out; omega) (by omega) (by have h1 := HI.out.eb; have h2 := Hes.out; have h3 : es.length = p'.length + (q.length + 1) := (by rw [h2]; simp); omega)).mono ?_
        rintro e w5 ⟨rfl, HLb5, HB5, HK5⟩
        clear hc0 hc1 hc2 hc3
        have hbx := blk_kept (blk_new wr (.cells #[.string x.f0, .int .i64 x.f1] 34)) HK5.out (fun h => Nat.lt_irrefl _ h.2)
        have hb0 : w5.cell? ⟨wr.heap.size, 0, none⟩ = some (.string x.f0) := (blk_cell hbx 0).trans rfl
        have hb1 : w5.cell? ⟨wr.heap.size, 1, none⟩ = some (.int .i64 x.f1) := (blk_cell hbx 1).trans rfl
        have HM5 := Aside0.mk (blk_kept (blk_alloc HI.out.blkm _) HK5.out (fun h => by have := (HI.out.fb _ h.1).1; omega))
        have HR5 := Aside0.mk (Kd.R_kept (Kd.R_alloc HI.out.row _) HK5.out (fun k hk h => by have := (HI.out.fb _ h.1).1; omega))
        have HLc5 := Aside0.mk (HLcB.out.kept HK5.out (fun k hk h => (HI.out.fb _ h.1).2 hk.1))
        have HS5 := Aside0.mk HK5.out.1
        clear hbx HLbB HLcB HK5
        by_cases hcc : C - Sc < x.f1
        · go_wp2_with fail
          refine (Spend.calls_as w _ _ gc C Sc esc x.f0 x.f1 12 Sc esc (by have h1 := Hx.out; have h3 := HI.out.sc0; have h4 := HI.out.sc1; unfold sp; rw [if_neg (by omega), if_pos (by omega)]) HB5.out HLc5.out HI.out.sc0 HI.out.sc1 HC.out.2.1 (by have h1 := HI.out.ec; have h2 := Hes.out; have h3 : es.length = p'.length + (q.length + 1) := (by rw [h2]; simp); omega)).mono ?_
          rintro e w6 ⟨rfl, HLc6, HB6, HK6⟩
          clear hb0 hb1
          have HLb6 := Aside0.mk (HLb5.out.bound.kept HK6.out (fun k hk h => hk.1.elim (fun h1 => (HI.out.fb _ h1.1).2 h.1) (fun h1 => by have := h.2; simp at h1; omega)))
          have HM6 := Aside0.mk (blk_kept HM5.out HK6.out (fun h => by have := HI.out.fc _ h.1; omega))
          have HR6 := Aside0.mk (Kd.R_kept HR5.out HK6.out (fun k hk h => by have := HI.out.fc _ h.1; omega))
          have hlw : gb < wr.heap.size := HI.out.lb.lt
          have hsz : wr.heap.size + 1 ≤ w5.heap.size := by have := HS5.out; simpa using this
          have HZ := Aside0.mk hsz
          have HlW := Aside0.mk hlw
          clear hsz hlw
          go_wp2
          go_roundg k1
          case measure => have := HK.out; simp at this; omega
          case rel => exact ⟨p', x :: q, true, i - 1, Sc, _, _, _, _, rfl, rfl, ⟨by have := HK.out; simp at this; omega⟩, ⟨⟨Hes.out, by have := Hi.out; omega, HM6.out, HR6.out, HB6.out, (Int.add_comm (costs q) x.f1) ▸ HLb6.out, HLc6.out, ord_fb HI.out.fb HlW.out (by simp), ord_fc HI.out.fc HlW.out (by have := HZ.out; omega), by have := HI.out.eb; simp; omega, by have := HI.out.ec; simp; omega, HI.out.sc0, HI.out.sc1, (fun h => by cases h), fun _ => by have h1 := Hx.out; have h2 := HI.out.sc0; have h3 := HI.out.sc1; have h4 := Hcs.out; have h5 := Hcp.out; have h6 := Hcq.out; omega⟩⟩⟩
        · go_wp2_with fail
          refine (Spend.calls_as w _ _ gc C Sc esc x.f0 x.f1 0 (Sc + x.f1) (esc ++ [⟨x.f0, x.f1⟩]) (by have h1 := Hx.out; have h3 := HI.out.sc0; have h4 := HI.out.sc1; unfold sp; rw [if_neg (by omega), if_neg (by omega)]) HB5.out HLc5.out HI.out.sc0 HI.out.sc1 HC.out.2.1 (by have h1 := HI.out.ec; have h2 := Hes.out; have h3 : es.length = p'.length + (q.length + 1) := (by rw [h2]; simp); omega)).mono ?_
          rintro e w6 ⟨rfl, HLc6, HB6, HK6⟩
          clear hb0 hb1
          have HLb6 := Aside0.mk (HLb5.out.bound.kept HK6.out (fun k hk h => hk.1.elim (fun h1 => (HI.out.fb _ h1.1).2 h.1) (fun h1 => by have := h.2; simp at h1; omega)))
          have HM6 := Aside0.mk (blk_kept HM5.out HK6.out (fun h => by have := HI.out.fc _ h.1; omega))
          have HR6 := Aside0.mk (Kd.R_kept HR5.out HK6.out (fun k hk h => by have := HI.out.fc _ h.1; omega))
          have hlw : gb < wr.heap.size := HI.out.lb.lt
          have hsz : wr.heap.size + 1 ≤ w5.heap.size := by have := HS5.out; simpa using this
          have HZ := Aside0.mk hsz
          have HlW := Aside0.mk hlw
          clear hsz hlw
          go_wp2
          go_roundg k1
          case measure => have := HK.out; simp at this; omega
          case rel => exact ⟨p', x :: q, rf, i - 1, (Sc + x.f1), _, _, _, _, rfl, rfl, ⟨by have := HK.out; simp at this; omega⟩, ⟨⟨Hes.out, by have := Hi.out; omega, HM6.out, HR6.out, HB6.out, (Int.add_comm (costs q) x.f1) ▸ HLb6.out, HLc6.out, ord_fb HI.out.fb HlW.out (by simp), ord_fc HI.out.fc HlW.out (by have := HZ.out; omega), by have := HI.out.eb; simp; omega, by have := HI.out.ec; simp; omega, by have h1 := Hx.out; have h2 := HI.out.sc0; omega, by omega, fun h => by have := HI.out.rf0 h; simp only [costs]; omega, HI.out.rf1⟩⟩⟩
def intervalmonlaw17_BudgetOrder.f (a0 : Int) (l1 : List Int) (a2 : Int) : Option Bool := if inIb a0 = true ∧ l1.all inIb = true ∧ l1.length ≤ 4611686018427387904 ∧ inIb a2 = true then some true else none
theorem intervalmonlaw17_BudgetOrder.calls (a0 : Int) (A1 : Option Addr) (c1 : Nat) (l1 : List Int) (a2 : Int) (r : Bool) (w : World) (hr1 : Kd.C (Kd.int .i64) w A1 l1.length l1) (hc1 : l1.length ≤ c1) (h : intervalmonlaw17_BudgetOrder.f a0 l1 a2 = some r) :
    Calls Try.prog 3 #[.int .i64 a0, .slice A1 l1.length c1, .int .i64 a2] w fun e w' => e = .returned (.bool r) ∧ Below w.heap.size w w' := by
  unfold intervalmonlaw17_BudgetOrder.f at h
  split at h
  · rename_i hh
    obtain rfl : true = r := by injection h
    exact BudgetOrder.calls a0 A1 c1 l1 a2 w hr1 hc1 (inIb_iff.1 hh.1) (fun x hx => inIb_iff.1 (List.all_eq_true.1 hh.2.1 x hx)) hh.2.2.1 (inIb_iff.1 hh.2.2.2)
  · cases h
end Go.Proofs.Ytbhcnbfgaiejaaa.PBud

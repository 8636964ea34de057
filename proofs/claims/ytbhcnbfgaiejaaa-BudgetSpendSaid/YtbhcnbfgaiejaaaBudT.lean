import Derived.Test.YtbhcnbfgaiejaaaBudS
import Derived.Test.YtbhcnbfgaiejaaaPBudx19
namespace Go.Proofs.Ytbhcnbfgaiejaaa.PBud
open Go.RowKit Go.Proofs.YtbhcnbfgaiejaaaW.PrintWords Go.Proofs.YtbhcnbfgaiejaaaW.PrintLast Go.Proofs.YtbhcnbfgaiejaaaW.PrintMore
open Go.Proofs.Ytbhcnbfgaiejaaa.Bud
set_option linter.unusedVariables false
set_option linter.unusedSimpArgs false
/-! Footprints by types. -/
def ofT (W : World) (q k : Nat) : Prop := ∃ cells, W.heap[k]? = some (.cells cells q (0, 0))
theorem ofT_ne {W : World} {a b k : Nat} (h : ofT W a k) (h2 : ofT W b k) (hab : a ≠ b) : False := by
  obtain ⟨c, h⟩ := h
  obtain ⟨d, h2⟩ := h2
  rw [h] at h2
  injection h2 with h2
  injection h2 with _ h2
  exact hab h2
theorem R34_typed {W : World} {b : Nat} {ok : Nat → Prop} {v : Value} {xs : List S34} (h : Kd.R k34 34 W b ok v xs) : Kd.R k34 34 W b (ofT W 34) v xs :=
  Kd.R_mono (Kd.R_bound h) (fun k hk => by
    obtain ⟨_, _, _, q, hq, hc⟩ := hk
    have : q = 34 := by simpa [k34, Kd.iso, Kd.pair, Kd.string, Kd.int, Kd.scalar] using hq
    subst this
    exact hc)
theorem R48_typed {W : World} {b : Nat} {ok : Nat → Prop} {v : Value} {xs : List S48} (h : Kd.R k48 48 W b ok v xs) : Kd.R k48 48 W b (ofT W 48) v xs :=
  Kd.R_mono (Kd.R_bound h) (fun k hk => by
    obtain ⟨_, _, _, q, hq, hc⟩ := hk
    have : q = 48 := by simpa [k48, Kd.iso, Kd.pair, Kd.string, Kd.int, Kd.scalar] using hq
    subst this
    exact hc)
theorem R3_typed {W : World} {b : Nat} {ok : Nat → Prop} {v : Value} {xs : List Int} (h : Kd.R (Kd.int .i64) 3 W b ok v xs) : Kd.R (Kd.int .i64) 3 W b (ofT W 3) v xs :=
  Kd.R_mono (Kd.R_bound h) (fun k hk => by
    obtain ⟨_, _, _, q, hq, hc⟩ := hk
    have : q = 3 := by simpa [Kd.int, Kd.scalar] using hq
    subst this
    exact hc)
theorem Led.typed {base : Nat} {F : Nat → Prop} {W : World} {g : Nat} {B S : Int} {es : List S48} (h : Led base F W g B S es) : Led base (fun k => ofT W 48 k ∨ ofT W 64 k) W g B S es := by
  obtain ⟨h1, h2, v, h3, h4, h5⟩ := h
  exact ⟨h1, .inr ⟨_, h3⟩, v, h3, Kd.R_mono (R48_typed h4) (fun _ h => .inl h), h5⟩
structure SpInv (w W : World) (gm gb : Nat) (Ao : Option Addr) (co : Nat) (B : Int) (own : List Int) (es : List S34) (A : Option Addr) (c : Nat) : Prop where
  gmb : w.heap.size ≤ gm
  blkm : W.heap[gm]? = some (.cells #[.int .i64 B, .slice A es.length c] 25 (0, 0))
  rowm : Kd.R k34 34 W w.heap.size (fun _ => True) (.slice A es.length c) es
  lb : Led w.heap.size (fun _ => True) W gb B (costs es) (es.map cv)
  own : Kd.R (Kd.int .i64) 3 W w.heap.size (fun _ => True) (.slice Ao own.length co) own
  bel : Below w.heap.size w W
theorem SpInv.below {w W W2 : World} {gm gb : Nat} {Ao : Option Addr} {co : Nat} {B : Int} {own : List Int} {es : List S34} {A : Option Addr} {c : Nat} (h : SpInv w W gm gb Ao co B own es A c) (hb : Below W.heap.size W W2) : SpInv w W2 gm gb Ao co B own es A c :=
  ⟨h.gmb, blk_below h.blkm hb, Kd.R_below h.rowm hb, h.lb.below hb, Kd.R_below h.own hb, below_step h.bel hb⟩
/-- What is left behind the reference's Spend: all but the reference's row. -/
structure SpMid (w W : World) (gm gb : Nat) (Ao : Option Addr) (co : Nat) (B S : Int) (own : List Int) (esb : List S48) (A : Option Addr) (n c : Nat) : Prop where
  gmb : w.heap.size ≤ gm
  blkm : W.heap[gm]? = some (.cells #[.int .i64 B, .slice A n c] 25 (0, 0))
  lb : Led w.heap.size (fun _ => True) W gb B S esb
  own : Kd.R (Kd.int .i64) 3 W w.heap.size (fun _ => True) (.slice Ao own.length co) own
  bel : Below w.heap.size w W
theorem SpInv.mid {w W W2 : World} {gm gb : Nat} {Ao : Option Addr} {co : Nat} {B : Int} {own : List Int} {es : List S34} {A : Option Addr} {c : Nat} (h : SpInv w W gm gb Ao co B own es A c) (hb : Below w.heap.size w W2) (hk : Kept W W2 (ofT W 34)) : SpMid w W2 gm gb Ao co B (costs es) own (es.map cv) A es.length c :=
  ⟨h.gmb, blk_kept h.blkm hk (fun h2 => ofT_ne h2 ⟨_, h.blkm⟩ (by decide)), (h.lb.typed.kept hk (fun k h1 h2 => h1.elim (fun h1 => ofT_ne h1 h2 (by decide)) (fun h1 => ofT_ne h1 h2 (by decide)))).mono (fun _ _ => trivial), Kd.R_mono (Kd.R_kept (R3_typed h.own) hk (fun k h1 h2 => ofT_ne h1 h2 (by decide))) (fun _ _ => trivial), hb⟩
theorem SpMid.below {w W W2 : World} {gm gb : Nat} {Ao : Option Addr} {co : Nat} {B S : Int} {own : List Int} {esb : List S48} {A : Option Addr} {n c : Nat} (h : SpMid w W gm gb Ao co B S own esb A n c) (hb : Below W.heap.size W W2) : SpMid w W2 gm gb Ao co B S own esb A n c :=
  ⟨h.gmb, blk_below h.blkm hb, h.lb.below hb, Kd.R_below h.own hb, below_step h.bel hb⟩
theorem SpMid.spend {w W W2 : World} {gm gb : Nat} {Ao : Option Addr} {co : Nat} {B S S' : Int} {own : List Int} {esb esb' : List S48} {A : Option Addr} {n c : Nat} {F' : Nat → Prop} (h : SpMid w W gm gb Ao co B S own esb A n c) (hb : Below w.heap.size w W2) (hk : Kept W W2 (fun k => ofT W 48 k ∨ ofT W 64 k)) (hl : Led w.heap.size F' W2 gb B S' esb') : SpMid w W2 gm gb Ao co B S' own esb' A n c :=
  ⟨h.gmb, blk_kept h.blkm hk (fun h2 => h2.elim (fun h2 => ofT_ne h2 ⟨_, h.blkm⟩ (by decide)) (fun h2 => ofT_ne h2 ⟨_, h.blkm⟩ (by decide))), hl.mono (fun _ _ => trivial), Kd.R_mono (Kd.R_kept (R3_typed h.own) hk (fun k h1 h2 => h2.elim (fun h2 => ofT_ne h1 h2 (by decide)) (fun h2 => ofT_ne h1 h2 (by decide)))) (fun _ _ => trivial), hb⟩
theorem SpMid.S3 {w W : World} {gm gb : Nat} {ad : Addr} {co : Nat} {B S : Int} {own : List Int} {esb : List S48} {A : Option Addr} {n c : Nat} (h : SpMid w W gm gb (some ad) co B S own esb A n c) (i : Int) (h0 : 0 ≤ i) (h1 : i < (own.length : Int)) : W.cell? ⟨gm, 0, none⟩ = some (.int .i64 B) ∧ W.cell? ⟨gm, 1, none⟩ = some (.slice A n c) ∧ W.cell? (ad.add i.toNat) = some (.int .i64 (rd own i)) := by
  obtain ⟨ad', e, hd⟩ := Kd.at_int (Kd.R_reads' h.own).2.2 i h0 h1
  cases e
  exact ⟨(blk_cell h.blkm 0).trans rfl, (blk_cell h.blkm 1).trans rfl, hd⟩
theorem SpInv.S3 {w W : World} {gm gb : Nat} {ad : Addr} {co : Nat} {B : Int} {own : List Int} {es : List S34} {A : Option Addr} {c : Nat} (h : SpInv w W gm gb (some ad) co B own es A c) (i : Int) (h0 : 0 ≤ i) (h1 : i < (own.length : Int)) : W.cell? ⟨gm, 0, none⟩ = some (.int .i64 B) ∧ W.cell? ⟨gm, 1, none⟩ = some (.slice A es.length c) ∧ W.cell? (ad.add i.toNat) = some (.int .i64 (rd own i)) := by
  obtain ⟨ad', e, hd⟩ := Kd.at_int (Kd.R_reads' h.own).2.2 i h0 h1
  cases e
  exact ⟨(blk_cell h.blkm 0).trans rfl, (blk_cell h.blkm 1).trans rfl, hd⟩
theorem SpInv.drew {w W : World} {gm gb : Nat} {Ao : Option Addr} {co : Nat} {B : Int} {own : List Int} {es : List S34} {A : Option Addr} {c : Nat} (h : SpInv w W gm gb Ao co B own es A c) : SpInv w W.drew gm gb Ao co B own es A c := h.below (below_drew1 (Below.refl _ _))
theorem SpMid.box {w W : World} {gm gb gx : Nat} {Ao : Option Addr} {co : Nat} {B S : Int} {own : List Int} {esb : List S48} {A : Option Addr} {n c : Nat} {cs : Array Value} (h : SpMid w W gm gb Ao co B S own esb A n c) (hx : W.heap[gx]? = some (.cells cs 25 (0, 0))) (hne : gm < gx) (j : Nat) (u : Value) : SpMid w (W.setCell ⟨gx, j, none⟩ u) gm gb Ao co B S own esb A n c :=
  ⟨h.gmb, blk_far h.blkm (by simp; omega) u, (h.lb.typed.kept (S2 := fun k => k = gx) (Kept.setCell (p := ⟨gx, j, none⟩) (Kept.refl W (fun k => k = gx)) (.inl rfl) u) (fun k h1 h2 => by subst h2; exact h1.elim (fun h1 => ofT_ne h1 ⟨_, hx⟩ (by decide)) (fun h1 => ofT_ne h1 ⟨_, hx⟩ (by decide)))).mono (fun _ _ => trivial), Kd.R_set h.own hx (by decide) j u, below_set h.bel (by have := h.gmb; omega)⟩
/-- Behind the region that asks the reference: the box of 'next' at gx. -/
def SpNext (w W : World) (gm gb gx : Nat) (Ao : Option Addr) (co : Nat) (B S : Int) (own : List Int) (esb : List S48) (A : Option Addr) (n c : Nat) (es' : List S34) : Prop :=
  SpMid w W gm gb Ao co B S own esb A n c ∧ gm < gx ∧ ∃ A8 c8, W.heap[gx]? = some (.cells #[.int .i64 B, .slice A8 es'.length c8] 25 (0, 0)) ∧ Kd.R k34 34 W w.heap.size (fun _ => True) (.slice A8 es'.length c8) es'
theorem SpMid.put {w W : World} {gm gb : Nat} {Ao : Option Addr} {co : Nat} {B S : Int} {own : List Int} {esb : List S48} {A A8 : Option Addr} {n c c8 : Nat} {es' : List S34} (h : SpMid w W gm gb Ao co B S own esb A n c) (hr : Kd.R k34 34 W w.heap.size (fun _ => True) (.slice A8 es'.length c8) es') (hS : S = costs es') (he : esb = es'.map cv) :
    SpInv w ((W.setCell ⟨gm, 0, none⟩ (.int .i64 B)).setCell ⟨gm, 1, none⟩ (.slice A8 es'.length c8)) gm gb Ao co B own es' A8 c8 := by
  subst hS
  subst he
  have b1 := blk_put (cs' := #[.int .i64 B, .slice A n c]) h.blkm 0 (.int .i64 B) rfl
  have b2 := blk_put (cs' := #[.int .i64 B, .slice A8 es'.length c8]) b1 1 (.slice A8 es'.length c8) rfl
  refine ⟨h.gmb, b2, Kd.R_set (Kd.R_set hr h.blkm (by decide) 0 _) b1 (by decide) 1 _, ?_, Kd.R_set (Kd.R_set h.own h.blkm (by decide) 0 _) b1 (by decide) 1 _, below_set (below_set h.bel h.gmb) h.gmb⟩
  exact (h.lb.typed.kept (S2 := fun k => k = gm) (Kept.setCell (p := ⟨gm, 1, none⟩) (Kept.setCell (p := ⟨gm, 0, none⟩) (Kept.refl W (fun k => k = gm)) (.inl rfl) _) (.inl rfl) _) (fun k h1 h2 => by subst h2; exact h1.elim (fun h1 => ofT_ne h1 ⟨_, h.blkm⟩ (by decide)) (fun h1 => ofT_ne h1 ⟨_, h.blkm⟩ (by decide)))).mono (fun _ _ => trivial)
theorem SpNext.mk {w W : World} {gm gb gx : Nat} {Ao : Option Addr} {co : Nat} {B S : Int} {own : List Int} {esb : List S48} {A : Option Addr} {n c : Nat} {es' : List S34} {A8 : Option Addr} {c8 : Nat} (h1 : SpMid w W gm gb Ao co B S own esb A n c) (h2 : gm < gx) (h3 : W.heap[gx]? = some (.cells #[.int .i64 B, .slice A8 es'.length c8] 25 (0, 0))) (h4 : Kd.R k34 34 W w.heap.size (fun _ => True) (.slice A8 es'.length c8) es') : SpNext w W gm gb gx Ao co B S own esb A n c es' := ⟨h1, h2, A8, c8, h3, h4⟩
theorem sp_rsp (B : Int) (es : List S34) (step : ByteArray) (cost : Int) : sp B (costs es) (es.map cv) step cost = ((rsp B es step cost).2.2, costs (rsp B es step cost).2.1, (rsp B es step cost).2.1.map cv) := by
  unfold sp rsp
  split
  · rfl
  · split
    · rfl
    · simp [costs_append, costs, cv]
theorem info3b : (Try.prog.info? 3).map (fun i => (i.zero, i.size, i.bytes)) = some (some (.int .i64 0), 1, 8) := by kernel_rfl
theorem lit_C {W : World} {g : Nat} {x y : Int} (h : W.heap[g]? = some (.cells #[.int .i64 x, .int .i64 y] 3 (0, 0))) : Kd.C (Kd.int .i64) W (some ⟨g, 0, none⟩) 2 [x, y] :=
  Kd.C_of_reads (enc := Value.int .i64) (d := 0) (h1 := fun _ => rfl) ⟨rfl, by omega, fun _ => ⟨_, rfl, fun j hj => by
    have : j = 0 ∨ j = 1 := by omega
    rcases this with rfl | rfl
    · exact (blk_cell h 0).trans rfl
    · exact (blk_cell h 1).trans rfl⟩⟩
theorem ints_ev (l : List Int) (hl : l.length ≤ 4611686018427387904) : ∃ o, intervalmonref01_Ints.f l 40 = some o ∧ o.length ≤ 40 ∧ ∀ x ∈ o, x ∈ l := by
  unfold intervalmonref01_Ints.f mn
  refine ⟨l.take 40, ?_, by simp; omega, fun x hx => List.mem_of_mem_take hx⟩
  by_cases h : (40 : Int) < (l.length : Int)
  · simp only [if_pos h]
    rw [if_pos (by omega), if_pos (by omega), if_pos (by simp; omega)]
    rfl
  · simp only [if_neg h]
    have e1 : l.take 40 = l := List.take_of_length_le (by omega)
    have e2 : l.take ((l.length : Int)).toNat = l := List.take_of_length_le (by omega)
    rw [if_pos (by omega), if_pos (by omega), e1, e2, if_pos (by simp; omega)]
    rfl
end Go.Proofs.Ytbhcnbfgaiejaaa.PBud

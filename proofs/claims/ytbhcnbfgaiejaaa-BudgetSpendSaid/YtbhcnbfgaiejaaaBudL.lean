import Derived.Test.YtbhcnbfgaiejaaaPBudx0
import Derived.Lib.SliceRun
namespace Go.Proofs.Ytbhcnbfgaiejaaa.PBud
open Go.RowKit Go.Proofs.YtbhcnbfgaiejaaaW.PrintWords Go.Proofs.YtbhcnbfgaiejaaaW.PrintLast Go.Proofs.YtbhcnbfgaiejaaaW.PrintMore
set_option linter.unusedVariables false
set_option linter.unusedSimpArgs false

/-- A ledger at block g, its footprint within F. -/
def Led (base : Nat) (F : Nat → Prop) (W : World) (g : Nat) (B S : Int) (es : List S48) : Prop :=
  base ≤ g ∧ F g ∧ ∃ v, W.heap[g]? = some (.cells #[.int .i64 B, .int .i64 S, v] 64 (0, 0)) ∧ Kd.R k48 48 W base F v es ∧ (es = [] → v = .slice none 0 0)
theorem Led.kept {base : Nat} {F S2 : Nat → Prop} {W W2 : World} {g : Nat} {B S : Int} {es : List S48} (h : Led base F W g B S es) (hk : Kept W W2 S2) (hd : ∀ k, F k → ¬ S2 k) : Led base F W2 g B S es := by
  obtain ⟨h1, h2, v, h3, h4, h5⟩ := h
  exact ⟨h1, h2, v, blk_kept h3 hk (hd _ h2), Kd.R_kept h4 hk hd, h5⟩
theorem Led.below {base : Nat} {F : Nat → Prop} {W W2 : World} {g : Nat} {B S : Int} {es : List S48} (h : Led base F W g B S es) (hb : Below W.heap.size W W2) : Led base F W2 g B S es :=
  h.kept (Kept.of_below hb (fun _ => False)) (fun _ _ hn => hn)
theorem Led.mono {base : Nat} {F F' : Nat → Prop} {W : World} {g : Nat} {B S : Int} {es : List S48} (h : Led base F W g B S es) (hf : ∀ k, F k → F' k) : Led base F' W g B S es := by
  obtain ⟨h1, h2, v, h3, h4, h5⟩ := h
  exact ⟨h1, hf _ h2, v, h3, Kd.R_mono h4 hf, h5⟩
theorem Led.bound {base : Nat} {F : Nat → Prop} {W : World} {g : Nat} {B S : Int} {es : List S48} (h : Led base F W g B S es) : Led base (fun k => F k ∧ k < W.heap.size) W g B S es := by
  obtain ⟨h1, h2, v, h3, h4, h5⟩ := h
  exact ⟨h1, ⟨h2, blk_lt h3⟩, v, h3, Kd.R_mono (Kd.R_bound h4) (fun k hk => ⟨hk.1, hk.2.2.1⟩), h5⟩
theorem Led.lt {base : Nat} {F : Nat → Prop} {W : World} {g : Nat} {B S : Int} {es : List S48} (h : Led base F W g B S es) : g < W.heap.size := by
  obtain ⟨h1, h2, v, h3, h4, h5⟩ := h
  exact blk_lt h3

theorem info48 : (Try.prog.info? 48).map (fun i => (i.zero, i.size, i.bytes)) = some (some (.agg #[(.string ⟨#[]⟩), (.int .i64 0)]), 2, 24) := by kernel_rfl
/-- What Spend does. -/
def sp (B S : Int) (es : List S48) (step : ByteArray) (cost : Int) : Int × Int × List S48 :=
  if cost < 0 ∨ (step.size : Int) < 1 ∨ 16 < (step.size : Int) then (1, S, es) else if B - S < cost then (12, S, es) else (0, S + cost, es ++ [⟨step, cost⟩])
def SpendPost (w0 w : World) (F : Nat → Prop) (g : Nat) (B : Int) (r : Int × Int × List S48) (e : Ending) (w' : World) : Prop :=
  e = .returned (.int .i64 r.1) ∧ Led w0.heap.size (fun k => F k ∨ w.heap.size ≤ k) w' g B r.2.1 r.2.2 ∧ Below w0.heap.size w0 w' ∧ Kept w w' F
theorem ret_intS {k : IntKind} {a b : Int} (h : a = b) : Ending.returned (.int k a) = .returned (.int k b) := by rw [h]
set_option maxHeartbeats 4000000 in
theorem Spend.calls (w0 w : World) (F : Nat → Prop) (g : Nat) (B S : Int) (es : List S48) (step : ByteArray) (cost : Int) (hB : Below w0.heap.size w0 w) (hL : Led w0.heap.size F w g B S es) (h0 : 0 ≤ S) (h1 : S ≤ B) (h2 : B ≤ 2147483648) (hl : es.length ≤ 1000) :
    Calls Try.prog 13 #[.pointer (some ⟨g, 0, none⟩), .string step, .int .i64 cost] w (SpendPost w0 w F g B (sp B S es step cost)) := by
  have hL0 := Aside0.mk hL
  obtain ⟨hbg, hFg, v, hg, hR, hnil⟩ := hL
  have hc0 : w.cell? ⟨g, 0, none⟩ = some (.int .i64 B) := (blk_cell hg 0).trans rfl
  have hc1 : w.cell? ⟨g, 1, none⟩ = some (.int .i64 S) := (blk_cell hg 1).trans rfl
  have hc2 : w.cell? ⟨g, 2, none⟩ = some v := (blk_cell hg 2).trans rfl
  have hf1 := blk_frozen hg 1
  have hf2 := blk_frozen hg 2
  have HR := Aside0.mk hR
  have HG := Aside0.mk hg
  have HB := Aside0.mk hB
  have HN := Aside0.mk hnil
  have HLn : Aside0 ((es.length + 1) * 24 ≤ 140737488355328) := ⟨by omega⟩
  clear hg hR hB hnil hl
  by_cases c1 : cost < 0 ∨ (step.size : Int) < 1 ∨ 16 < (step.size : Int)
  · have hsp : sp B S es step cost = (1, S, es) := by unfold sp; rw [if_pos c1]
    rw [hsp]
    have fin : SpendPost w0 w F g B (1, S, es) (.returned (.int .i64 1)) w := ⟨rfl, hL0.out.mono (fun _ h => .inl h), HB.out, Kept.refl _ _⟩
    clear hsp hL0
    by_cases c2 : cost < 0
    · clear c1
      go_enter Try.func13, Try.ntmps13
      go_wp2
      go_ret
      exact fin
    · by_cases c3 : (step.size : Int) < 1
      · clear c1
        go_enter Try.func13, Try.ntmps13
        go_wp2
        go_ret
        exact fin
      · have c4 : 16 < (step.size : Int) := by omega
        clear c1
        go_enter Try.func13, Try.ntmps13
        go_wp2
        go_ret
        exact fin
  · have c2 : ¬ cost < 0 := by omega
    have c3 : ¬ (step.size : Int) < 1 := by omega
    have c4 : ¬ 16 < (step.size : Int) := by omega
    by_cases c5 : B - S < cost
    · have hsp : sp B S es step cost = (12, S, es) := by unfold sp; rw [if_neg c1, if_pos c5]
      rw [hsp]
      have fin : ∀ m, SpendPost w0 w F g B (12, S, es) (.returned (.int .i64 12)) (w.drewN m) := fun m => ⟨rfl, (hL0.out.below (pw_below_drewN (Below.refl _ _) m)).mono (fun _ h => .inl h), pw_below_drewN HB.out m, Kept.drewN (Kept.refl _ _) m⟩
      clear hsp hL0 c1
      go_enter Try.func13, Try.ntmps13
      go_wp2
      go_quiet (fail)
      go_wp2
      go_ret
      exact fin _
    · have hsp : sp B S es step cost = (0, S + cost, es ++ [⟨step, cost⟩]) := by unfold sp; rw [if_neg c1, if_neg c5]
      rw [hsp]
      clear hsp c1
      have hw1 : IntKind.i64.wrap (B - S) = B - S := IntWalk.i64_in _ (by omega)
      have hbS : S + cost ≤ 2147483648 := by omega
      go_enter Try.func13, Try.ntmps13
      go_wp2
      go_quiet (fail)
      go_wp2_with (at_builtin; (refine Kd.R_append k48 (w0 := w0) w0.heap.size rfl (.tmp 42) (.tmp 46) 40 48 (.agg #[(.string ⟨#[]⟩), (.int .i64 0)]) 24 rfl Try.underlying40 info48 rfl (by decide) (by omega) v es (⟨step, cost⟩ : S48) [.string step, .int .i64 cost] (fun k => F k ∨ w.heap.size ≤ k) (fun _ => False) rfl (congrArg (fun n => Value.slice (some ⟨n, 0, none⟩) 1 1) (show w.heap.size = _ from by simp [World.setCell])) ?aP (fun _ hk => hk.elim) ?aF ?aO ?aB ?aS ?aL ?_); (case aP => exact k48_mkM _ _ _ _); (case aB => exact below_set (pw_below_drewN HB.out _) hbg); (case aF => exact fun k hk => .inr (by simpa [World.setCell] using hk)); (case aO => exact Kd.R_mono (Kd.R_set (Kd.R_drewN HR.out _) HG.out (by decide) 1 _) (fun _ h => .inl h)); (case aS => exact below_size (below_set (pw_below_drewN HB.out _) hbg)); (case aL => exact HLn.out); intro v1 w1 hR1 hb1 hg1 hat1; obtain ⟨A1, c1, e1⟩ := Kd.R_slice hR1; rw [List.length_append, List.length_singleton] at e1; subst e1; have hx1 := blk_grown (blk_put (cs' := #[.int .i64 B, .int .i64 (S + cost), v]) (blk_drewN HG.out _) 1 (.int .i64 (S + cost)) rfl) hg1 (Kd.R_ne HR.out HG.out (by decide)); have hK1 := Aside0.mk (Kept.of_grown hg1 (Kept.setCell (Kept.drewN (Kept.refl w F) _) (.inl hFg) _) (fun k hk => .inl (HR.out.1 k hk))); have hc2' : w1.cell? ⟨g, 2, none⟩ = some v := (blk_cell hx1 2).trans rfl; have hf2' := blk_frozen hx1 2; have HX1 := Aside0.mk hx1; have HR1 := Aside0.mk hR1; have HB1 := Aside0.mk hb1; clear hc0 hc1 hc2 hf1 hf2 hx1 hR1 hb1 hg1 hat1)
      go_ret
      exact ⟨rfl, ⟨hbg, .inl hFg, .slice A1 (es.length + 1) c1, blk_put HX1.out 2 _ rfl, Kd.R_set HR1.out HX1.out (by decide) 2 _, fun h => by simp at h⟩, below_set HB1.out hbg, Kept.setCell hK1.out (.inl hFg) _⟩
/-! ### New, Left, Spent -/
def NewPost (w0 w : World) (n : Int) (e : Ending) (w' : World) : Prop :=
  e = .returned (.tuple #[.pointer (some ⟨w.heap.size, 0, none⟩), .int .i64 0]) ∧ Led w0.heap.size (fun k => w.heap.size ≤ k) w' w.heap.size n 0 [] ∧ Below w.heap.size w w'
theorem New.calls_ok (w0 w : World) (n : Int) (hB : Below w0.heap.size w0 w) (h0 : 0 ≤ n) (h1 : n ≤ 2147483648) : Calls Try.prog 11 #[.int .i64 n] w (NewPost w0 w n) := by
  have fin : NewPost w0 w n (.returned (.tuple #[.pointer (some ⟨w.heap.size, 0, none⟩), .int .i64 0])) (w.alloc (.cells #[.int .i64 n, .int .i64 0, .slice none 0 0] 64)) :=
    ⟨rfl, ⟨below_size hB, Nat.le_refl _, _, blk_new w _, Kd.R_nil _ _ _ _ _, fun _ => rfl⟩, below_alloc (Below.refl _ _) _⟩
  clear hB
  go_enter Try.func11, Try.ntmps11
  go_wp2
  go_ret2
  exact fin
theorem New.calls_no (w : World) (n : Int) (h : n < 0 ∨ 2147483648 < n) : Calls Try.prog 11 #[.int .i64 n] w fun e w' => e = .returned (.tuple #[.pointer none, .int .i64 1]) ∧ w = w' := by
  by_cases h0 : n < 0
  · clear h
    go_enter Try.func11, Try.ntmps11
    go_wp2
    go_ret2
    exact ⟨rfl, rfl⟩
  · have h1 : 2147483648 < n := by omega
    clear h
    go_enter Try.func11, Try.ntmps11
    go_wp2
    go_ret2
    exact ⟨rfl, rfl⟩
theorem Left.calls (base : Nat) (F : Nat → Prop) (w : World) (g : Nat) (B S : Int) (es : List S48) (hL : Led base F w g B S es) (h0 : 0 ≤ S) (h1 : S ≤ B) (h2 : B ≤ 2147483648) :
    Calls Try.prog 14 #[.pointer (some ⟨g, 0, none⟩)] w fun e w' => e = .returned (.int .i64 (B - S)) ∧ Drawn0 w w' := by
  obtain ⟨hbg, hFg, v, hg, hR, hnil⟩ := hL
  have hc0 : w.cell? ⟨g, 0, none⟩ = some (.int .i64 B) := (blk_cell hg 0).trans rfl
  have hc1 : w.cell? ⟨g, 1, none⟩ = some (.int .i64 S) := (blk_cell hg 1).trans rfl
  have hw1 : IntKind.i64.wrap (B - S) = B - S := IntWalk.i64_in _ (by omega)
  clear hnil hR hg hFg hbg
  go_enter Try.func14, Try.ntmps14
  go_wp2
  go_quiet (fail)
  go_wp2
  go_ret
  exact ⟨rfl, ⟨_, rfl⟩⟩
theorem Spent.calls (base : Nat) (F : Nat → Prop) (w : World) (g : Nat) (B S : Int) (es : List S48) (hL : Led base F w g B S es) :
    Calls Try.prog 17 #[.pointer (some ⟨g, 0, none⟩)] w fun e w' => e = .returned (.int .i64 S) ∧ w = w' := by
  obtain ⟨hbg, hFg, v, hg, hR, hnil⟩ := hL
  have hc1 : w.cell? ⟨g, 1, none⟩ = some (.int .i64 S) := (blk_cell hg 1).trans rfl
  clear hnil hR hg hFg hbg
  go_enter Try.func17, Try.ntmps17
  go_wp2
  go_ret
  exact ⟨rfl, rfl⟩

/-! ### Clone, Entries -/
def RowPost (w : World) (es : List S48) (e : Ending) (w' : World) : Prop := ∃ v, e = .returned v ∧ Kd.R k48 48 w' w.heap.size (fun _ => True) v es ∧ Below w.heap.size w w'
theorem R_empty {W : World} {base g : Nat} (hb : base ≤ g) (hh : W.heap[g]? = some (.cells #[] 48 (0, 0))) : Kd.R k48 48 W base (fun _ => True) (.slice (some ⟨g, 0, none⟩) 0 0) [] :=
  ⟨fun _ _ => trivial, [], ⟨rfl, .inr ⟨g, 0, #[], rfl, hb, hh, Nat.le_refl _, Nat.zero_le _, rfl, rfl⟩⟩, ⟨by simp, fun j p hj => by simp at hj⟩⟩
theorem Clone.calls_nil (w : World) : Calls Try.prog 32 #[.slice none 0 0] w (RowPost w []) := by
  have fin : RowPost w [] (.returned (.slice none 0 0)) w := ⟨_, rfl, Kd.R_nil _ _ _ _ _, Below.refl _ _⟩
  have qT : ∀ (w : World) (a : Option Addr) (n c : Nat), Sem.run Try.prog (binOp BinOp.eql 40 (Value.slice a n c) (Value.slice none 0 0)) w = Result.ok (Value.bool a.isNone) w := fun w a n c => Lib.run_eql_slice_nil w _ _ a n c 0 0 Try.underlying40
  go_enter Try.func32, Try.ntmps32
  go_wp2
  go_ret
  exact fin
set_option maxHeartbeats 4000000 in
theorem Clone.calls_some (w : World) (ad : Addr) (c : Nat) (es : List S48) (hC : Kd.C k48 w (some ad) es.length es) (hl : es.length ≤ 1000) : Calls Try.prog 32 #[.slice (some ad) es.length c] w (RowPost w es) := by
  have HC := Aside0.mk hC
  have HL := Aside0.mk hl
  clear hC hl
  have qT : ∀ (w : World) (a : Option Addr) (n c : Nat), Sem.run Try.prog (binOp BinOp.eql 40 (Value.slice a n c) (Value.slice none 0 0)) w = Result.ok (Value.bool a.isNone) w := fun w a n c => Lib.run_eql_slice_nil w _ _ a n c 0 0 Try.underlying40
  go_enter Try.func32, Try.ntmps32
  go_wp2_with (at_builtin; (refine Kd.R_append_rows k48 (w0 := w) w.heap.size rfl (.tmp 5) (.tmp 6) 40 48 (.agg #[(.string ⟨#[]⟩), (.int .i64 0)]) 24 rfl Try.underlying40 info48 rfl (by decide) (by omega) (.slice (some ⟨w.heap.size, 0, none⟩) 0 0) ([] : List S48) es (some ad) es.length c (fun _ => True) (fun _ => False) rfl rfl (R_empty (Nat.le_refl _) (blk_new w _)) (Kd.C_alloc HC.out _) (fun x cs hx => by rw [k48_open hx]; exact k48_mkM _ _ _ _) (fun _ h => h.elim) (fun _ _ => trivial) (below_alloc (Below.refl _ _) _) (by simp) (by have := HL.out; simp; omega) ?_); intro v1 w1 hR1 hb1 hg1 hat1; have HR1 := Aside0.mk hR1; have HB1 := Aside0.mk hb1; clear hR1 hb1 hg1 hat1; obtain ⟨A1, c1, e1⟩ := Kd.R_slice HR1.out; rw [List.nil_append] at e1; subst e1)
  go_ret
  exact ⟨_, rfl, HR1.out, HB1.out⟩
theorem Entries.calls (base : Nat) (F : Nat → Prop) (w : World) (g : Nat) (B S : Int) (es : List S48) (hL : Led base F w g B S es) (hl : es.length ≤ 1000) :
    Calls Try.prog 18 #[.pointer (some ⟨g, 0, none⟩)] w (RowPost w es) := by
  obtain ⟨hbg, hFg, v, hg, hR, hnil⟩ := hL
  obtain ⟨A, c, rfl, hle, hC⟩ := Kd.R_reads hR
  have hc2 : w.cell? ⟨g, 2, none⟩ = some (.slice A es.length c) := (blk_cell hg 2).trans rfl
  cases es with
  | nil =>
    have e := hnil rfl
    injection e with e1 e2 e3
    subst e1 e3
    clear hg hR hnil hC hle hbg hFg hl
    go_enter Try.func18, Try.ntmps18
    go_wp2_with (go_at_call 32; refine (Clone.calls_nil _).mono ?_; rintro e w' ⟨v, rfl, hR, hb⟩)
    go_ret
    exact ⟨_, rfl, hR, hb⟩
  | cons e0 es =>
    cases A with
    | none => obtain ⟨ad, c', h, _⟩ := Kd.C_get hC z48 0 (by omega) (by simp); cases h
    | some ad =>
      have hcl := Clone.calls_some w ad c (e0 :: es) hC hl
      clear hg hR hnil hC hle hbg hFg hl
      go_enter Try.func18, Try.ntmps18
      go_wp2_with (go_at_call 32; refine (hcl).mono ?_; rintro e w' ⟨v, rfl, hR, hb⟩)
      go_ret
      exact ⟨_, rfl, hR, hb⟩
end Go.Proofs.Ytbhcnbfgaiejaaa.PBud

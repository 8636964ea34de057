/- Slices of structs that came in, opened as the print's rows: one lemma for every element kind. -/
import Derived.Test.YtbhcnbfgaiejaaaWNEv
import Derived.Test.YtbhcnbfgaiejaaaWSized
import Derived.Deep.Slices
import Derived.OpenShut
namespace Go.Proofs.Ytbhcnbfgaiejaaa.OpenS
open Go.ChangeShapes Go.WideShapes Go.RowKit Go.Deep Go.Proofs.YtbhcnbfgaiejaaaW.PrintWords
section
variable {H : Type} {enc : TypeId × Value → H} {P : Program} {W : World} {base : Nat} {spare : Nat → Bool} {held : Bool} {t e : TypeId} {a : Option Addr} {len cap : Nat} {dd : DataW H} {ps : List MemPlace}
theorem open_rows {α : Type} [Inhabited α] (d : Kd α) (good : α → Prop) (ht : P.underlying t = some (.slice e)) (hsz : P.cellsOf e = d.sz)
    (hdec : ∀ (fuel : Nat) (cs : List Value) (x : DataW H × List MemPlace), DataW.trod enc P W base spare held fuel e cs = some x → ∃ y : α, d.K W y cs ∧ good y)
    (h : DataW.Trod enc P W base spare held t (.slice a len cap) dd ps) :
    ∃ l : List α, l.length = len ∧ Kd.C d W a len l ∧ len ≤ cap ∧ ∀ y ∈ l, good y := by
  obtain ⟨fuel, hf⟩ := h
  rcases open_slice ht hf with ⟨hcs, _⟩ | ⟨a', len', cap', m, n, D, Pl, hcs, _, hl, hm, hmm, hx, hel⟩
  · simp [Value.cells] at hcs
    obtain ⟨rfl, rfl, rfl⟩ := hcs
    exact ⟨[], rfl, ⟨rfl, by omega, fun h => absurd h (by omega)⟩, by omega, fun y hy => absurd hy (by simp)⟩
  · simp [Value.cells] at hcs
    obtain ⟨rfl, rfl, rfl⟩ := hcs
    have hlm : len ≤ m := by rw [hmm]; split <;> omega
    obtain ⟨f, hf'⟩ := choose_lt (α := α) (n := len) (p := fun i y => ∃ cs', W.cells? base (a'.add (i * P.cellsOf e)) (P.cellsOf e) = some cs' ∧ d.K W y cs' ∧ good y) (fun i hi => by
      obtain ⟨cs', h1, h2⟩ := hel i (by omega)
      obtain ⟨y, hk, hg⟩ := hdec _ _ _ h2
      exact ⟨y, cs', h1, hk, hg⟩)
    refine ⟨(List.range len).map f, by simp, ⟨by simp, by simp only [maxLen] at hm; omega, fun _ => ⟨a', rfl, fun j p hj => ?_⟩⟩, hl, ?_⟩
    · obtain ⟨hjl, hjp⟩ := List.getElem?_eq_some_iff.1 hj
      simp at hjl hjp
      obtain ⟨cs', h1, hk, _⟩ := hf' j hjl
      obtain ⟨_, hlen, hcell⟩ := World.cells?_some h1
      subst hjp
      refine ⟨cs', d.K_len hk, hk, fun i u hu => ?_⟩
      have hi : i < cs'.length := (List.getElem?_eq_some_iff.1 hu).1
      have z := hcell i (by omega)
      rw [hsz, Go.Deep.add_add, hu] at z
      exact z
    · intro y hy
      simp only [List.mem_map, List.mem_range] at hy
      obtain ⟨i, hi, rfl⟩ := hy
      obtain ⟨_, _, _, hg⟩ := hf' i hi
      exact hg
theorem sized_rows {ts : List TypeId} {ds : List (DataW H)} {j : Nat} (hsz : (DataW.weightsEach P ts ds).all (· ≤ reachBytes) = true) (ht : ts[j]? = some t) (hd : ds[j]? = some dd) (hu : P.underlying t = some (.slice e)) {B : Nat} (hB : P.bytesOf e = B)
    (h : DataW.Trod enc P W base spare held t (.slice a len cap) dd ps) : len * B ≤ 140737488351232 := by
  obtain ⟨fuel, hf⟩ := h
  rcases open_slice hu hf with ⟨hcs, _⟩ | ⟨a', len', cap', m, n, D, Pl, hcs, _, hl, hm, hmm, hx, hel⟩
  · simp [Value.cells] at hcs
    obtain ⟨rfl, rfl, rfl⟩ := hcs
    simp
  · simp [Value.cells] at hcs
    obtain ⟨rfl, rfl, rfl⟩ := hcs
    obtain ⟨hx, _⟩ := Prod.mk.inj hx
    subst hx
    have z := sized_slice hsz ht hd hu
    rw [hB] at z
    simp only [List.length_map, List.length_range] at z
    exact Nat.le_trans (Nat.mul_le_mul_right _ (by omega)) z
end
end Go.Proofs.Ytbhcnbfgaiejaaa.OpenS

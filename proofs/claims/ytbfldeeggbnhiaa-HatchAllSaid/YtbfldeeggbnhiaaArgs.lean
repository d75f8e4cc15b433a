/- What is read of a slice that came in: its elements, cell by cell; over any program. -/
import Derived.Test.YtbfldeeggbnhiaaMem
import Derived.Deep.Grids
import Derived.Deep.SlicePairs
import Derived.ProofKit
namespace Go.Mem
open Go.RowKit Go.Deep
variable {P : Program} {H : Type} {enc : TypeId × Value → H}
theorem add_none {a : Addr} {w : World} {v : Value} (h : w.cell? (a.add 0) = some v) : a = ⟨a.block, a.off, none⟩ := by
  have h' : w.cell? a = some v := by simpa [Addr.add] using h
  have := World.cell?_spot h'
  obtain ⟨b, o, s⟩ := a
  simp only at this
  subst this; rfl
theorem add_off (b off i : Nat) : (⟨b, off, none⟩ : Addr).add i = ⟨b, off + i, none⟩ := by unfold Addr.add; split <;> simp_all
theorem cell_lt {w : World} {b o : Nat} {v : Value} (h : w.cell? ⟨b, o, none⟩ = some v) : b < w.heap.size := by
  rcases Nat.lt_or_ge b w.heap.size with h1 | h1
  · exact h1
  · simp [World.cell?, h1] at h
/-- Whatever reads element by element, one cell each. -/
theorem arg1_of {W : World} {x : Addr} {len cap : Nat} {V : Nat → Value} (hl : len ≤ cap) (hm : cap ≤ maxLen) (hc : ∀ i, i < cap → W.cell? (x.add i) = some (V i)) : Arg1 W (some x) len V := by
  refine ⟨Nat.le_trans hl hm, fun h0 => ?_⟩
  have hx := add_none (hc 0 (by omega))
  refine ⟨x.block, x.off, by rw [← hx], ?_, fun k hk => ?_⟩
  · have := hc 0 (by omega); rw [hx, add_off] at this; exact cell_lt this
  · have := hc k (by omega); rw [hx, add_off] at this; exact this
theorem arg1_nil {W : World} {ao : Option Addr} {V : Nat → Value} : Arg1 W ao 0 V := ⟨by simp [maxLen], fun h => by omega⟩
theorem arg_bools {t e : TypeId} (ht : P.underlying t = some (.slice e)) (he : P.underlying e = some .bool) (hc : P.cellsOf e = 1) {W : World} {a : Option Addr} {len cap : Nat} {d : DataW H} {p : List MemPlace}
    (h : DataW.Trod enc P W 0 (fun _ => true) true t (.slice a len cap) d p) : ∃ F : Nat → Bool, Arg1 W a len (fun k => .bool (F k)) := by
  obtain ⟨fuel, hf⟩ := h
  rcases open_bools ht he hc hf with ⟨hcs, _⟩ | ⟨x, l, c, B, hcs, _, hl, hm, _, hx⟩
  · simp [Value.cells] at hcs
    obtain ⟨rfl, rfl, rfl⟩ := hcs
    exact ⟨fun _ => false, arg1_nil⟩
  · simp [Value.cells] at hcs
    obtain ⟨rfl, rfl, rfl⟩ := hcs
    exact ⟨B, arg1_of hl hm hx⟩
/-- A slice of pairs that came in. -/
def Arg2 (w : World) (ao : Option Addr) (len : Nat) (V0 V1 : Nat → Value) : Prop :=
  len ≤ maxLen ∧ (0 < len → ∃ b off, ao = some ⟨b, off, none⟩ ∧ b < w.heap.size ∧ ∀ k, k < len → w.cell? ⟨b, off + k * 2, none⟩ = some (V0 k) ∧ w.cell? ⟨b, off + (k * 2 + 1), none⟩ = some (V1 k))
theorem arg_int_pairs {t e : TypeId} {f0 f1 : Field} (ht : P.underlying t = some (.slice e)) (he : P.underlying e = some (.struct #[f0, f1])) (ce : P.cellsOf e = 2) (o0 : f0.offset = 0) (o1 : f1.offset = 1) (c0 : P.cellsOf f0.type = 1) (c1 : P.cellsOf f1.type = 1)
    {k0 k1 : IntKind} (hk0 : P.underlying f0.type = some (.int k0)) (hk1 : P.underlying f1.type = some (.int k1)) {W : World} {a : Option Addr} {len cap : Nat} {d : DataW H} {p : List MemPlace}
    (h : DataW.Trod enc P W 0 (fun _ => true) true t (.slice a len cap) d p) : ∃ F G : Nat → Int, Arg2 W a len (fun k => .int k0 (F k)) (fun k => .int k1 (G k)) := by
  obtain ⟨fuel, hf⟩ := h
  rcases open_slice_pairs ht he ce o0 o1 c0 c1 hf with ⟨hcs, _⟩ | ⟨x, l, c, m, n, V0, V1, D0, D1, P0, P1, hcs, _, hl, hm, hmm, _, hx⟩
  · simp [Value.cells] at hcs
    obtain ⟨rfl, rfl, rfl⟩ := hcs
    exact ⟨fun _ => 0, fun _ => 0, by simp [maxLen], fun h => by omega⟩
  · simp [Value.cells] at hcs
    obtain ⟨rfl, rfl, rfl⟩ := hcs
    simp only [if_true] at hmm
    subst hmm
    have key : ∀ i, i < m → ∃ F G : Int, V0 i = .int k0 F ∧ V1 i = .int k1 G := by
      intro i hi
      obtain ⟨_, _, h0, h1⟩ := hx i hi
      obtain ⟨F, e0, _, _⟩ := DataW.trod_int hk0 h0
      obtain ⟨G, e1, _, _⟩ := DataW.trod_int hk1 h1
      simp at e0 e1
      exact ⟨F, G, e0, e1⟩
    refine ⟨fun i => if h : i < m then (key i h).choose else 0, fun i => if h : i < m then (key i h).choose_spec.choose else 0, Nat.le_trans hl hm, fun h0 => ?_⟩
    have hx0 := add_none (hx 0 (by omega)).1
    refine ⟨x.block, x.off, by rw [← hx0], ?_, fun k hk => ?_⟩
    · have := (hx 0 (by omega)).1; rw [hx0, add_off] at this; exact cell_lt this
    · have h2 := hx k (by omega)
      rw [hx0, add_off, add_off] at h2
      have hkm : k < m := by omega
      simp only [hkm, dif_pos]
      exact ⟨h2.1.trans (congrArg some (key k hkm).choose_spec.choose_spec.1), h2.2.1.trans (congrArg some (key k hkm).choose_spec.choose_spec.2)⟩
end Go.Mem

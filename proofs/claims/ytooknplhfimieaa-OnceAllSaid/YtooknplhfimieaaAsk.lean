/- The argument of OnceAll read cell by cell; its own list beside the table. Conditions: none. -/
import Derived.Test.YtooknplhfimieaaTwice
import Derived.Deep.Slices
import Derived.Deep.Fields
import Derived.ProofKit
namespace Go.Proofs.Ytooknplhfimieaa
open Go.RowKit Go.Mem
theorem add_none {a : Addr} {w : World} {v : Value} (h : w.cell? (a.add 0) = some v) : a = ⟨a.block, a.off, none⟩ := by
  have h' : w.cell? a = some v := by simpa [Addr.add] using h
  have := World.cell?_spot h'
  obtain ⟨b, o, s⟩ := a
  simp only at this
  subst this; rfl
theorem add_off (b off i : Nat) : (⟨b, off, none⟩ : Addr).add i = ⟨b, off + i, none⟩ := by unfold Addr.add; split <;> simp_all
/-- What one asks. -/
structure Asked where
  t : Bool
  r : Int
  q : ByteArray
  a : Int
def AskAt (w : World) (b o : Nat) (x : Asked) : Prop := w.cell? ⟨b, o, none⟩ = some (.bool x.t) ∧ w.cell? ⟨b, o + 1, none⟩ = some (.int .i64 x.r) ∧ w.cell? ⟨b, o + 2, none⟩ = some (.string x.q) ∧ w.cell? ⟨b, o + 3, none⟩ = some (.int .i64 x.a)
def ArgA (w : World) (ao : Option Addr) (len : Nat) (V : Nat → Asked) : Prop :=
  len ≤ maxLen ∧ (0 < len → ∃ b off, ao = some ⟨b, off, none⟩ ∧ b < w.heap.size ∧ ∀ k, k < len → AskAt w b (off + k * 4) (V k))
theorem arg_asks {H : Type} {enc : TypeId × Value → H} {W : World} {a : Option Addr} {len cap : Nat} {d : DataW H} {p : List MemPlace}
    (h : DataW.Trod enc Try.prog W 0 (fun _ => true) true 22 (.slice a len cap) d p) : ∃ V : Nat → Asked, ArgA W a len V := by
  obtain ⟨fuel, hf⟩ := h
  rcases Go.Deep.open_slice Try.underlying22 hf with ⟨hcs, _⟩ | ⟨x, l, c, m, n, D, Pl, hcs, _, hl, hm, hmm, _, hx⟩
  · simp [Value.cells] at hcs
    obtain ⟨rfl, rfl, rfl⟩ := hcs
    exact ⟨fun _ => ⟨false, 0, ByteArray.empty, 0⟩, by simp [maxLen], fun h => by omega⟩
  · simp [Value.cells] at hcs
    obtain ⟨rfl, rfl, rfl⟩ := hcs
    simp only [if_true] at hmm
    subst hmm
    have hC : Try.prog.cellsOf 27 = 4 := by kernel_rfl
    have c4 : Try.prog.cellsOf 4 = 1 := by kernel_rfl
    have c2 : Try.prog.cellsOf 2 = 1 := by kernel_rfl
    have c9 : Try.prog.cellsOf 9 = 1 := by kernel_rfl
    have c3 : Try.prog.cellsOf 3 = 1 := by kernel_rfl
    have key : ∀ i, i < m → ∃ y : Asked, W.cell? (x.add (i * 4)) = some (.bool y.t) ∧ W.cell? (x.add (i * 4 + 1)) = some (.int .i64 y.r) ∧ W.cell? (x.add (i * 4 + 2)) = some (.string y.q) ∧ W.cell? (x.add (i * 4 + 3)) = some (.int .i64 y.a) := by
      intro i hi
      obtain ⟨cs, h1, h2⟩ := hx i hi
      rw [hC] at h1
      obtain ⟨_, hlen, hat⟩ := World.cells?_some h1
      match cs, hlen with
      | [v0, v1, v2, v3], _ =>
        obtain ⟨xs, n', _, _, _, hxl, hf⟩ := DataW.trod_struct Try.underlying27 h2
        match xs, hxl with
        | [y0, y1, y2, y3], _ =>
          have f0 := hf 0 _ rfl
          have f1 := hf 1 _ rfl
          have f2 := hf 2 _ rfl
          have f3 := hf 3 _ rfl
          simp [c4, c2, c9, c3] at f0 f1 f2 f3
          obtain ⟨t, e0, _⟩ := DataW.trod_bool Try.underlying4 f0
          obtain ⟨r, e1, _⟩ := DataW.trod_int Try.underlying2 f1
          obtain ⟨q, e2, _⟩ := DataW.trod_string Try.underlying9 f2
          obtain ⟨a, e3, _⟩ := DataW.trod_int Try.underlying3 f3
          simp at e0 e1 e2 e3
          subst e0 e1 e2 e3
          refine ⟨⟨t, r, q, a⟩, ?_, ?_, ?_, ?_⟩
          · have := hat 0 (by omega); rw [Go.Deep.add_add] at this; simpa using this
          · have := hat 1 (by omega); rw [Go.Deep.add_add] at this; simpa using this
          · have := hat 2 (by omega); rw [Go.Deep.add_add] at this; simpa using this
          · have := hat 3 (by omega); rw [Go.Deep.add_add] at this; simpa using this
    clear hx hf
    rcases Nat.eq_zero_or_pos m with h0 | h0
    · exact ⟨fun _ => ⟨false, 0, ByteArray.empty, 0⟩, Nat.le_trans hl hm, fun h => by omega⟩
    · obtain ⟨y0, hy0, _⟩ := key 0 h0
      have hx0 := add_none hy0
      rw [hx0] at key
      generalize hb : x.block = b at *
      generalize ho : x.off = off at *
      simp only [add_off] at key
      refine ⟨fun i => if h : i < m then (key i h).choose else ⟨false, 0, ByteArray.empty, 0⟩, Nat.le_trans hl hm, fun _ => ⟨b, off, by rw [hx0], ?_, fun k hk => ?_⟩⟩
      · obtain ⟨y, hy, _⟩ := key 0 h0
        exact cell_lt hy
      · have hkm : k < m := by omega
        simp only [AskAt, hkm, dif_pos]
        exact (key k hkm).choose_spec
def Asked.cells (x : Asked) : List Value := [.bool x.t, .int .i64 x.r, .string x.q, .int .i64 x.a]
def Asked.t3 (x : Asked) : T3 := ⟨x.r, .string x.q, .int .i64 x.a⟩
def ownC (l : List Asked) : List Value := l.flatMap Asked.cells
def tabL (l : List Asked) : List T3 := l.map Asked.t3
theorem tabL_at {l : List Asked} {k : Nat} {x : Asked} (h : l[k]? = some x) : (tabL l)[k]? = some ⟨x.r, .string x.q, .int .i64 x.a⟩ := by simp [tabL, h, Asked.t3]
theorem tabL_back {l : List Asked} {k : Nat} {y : T3} (h : (tabL l)[k]? = some y) : ∃ x, l[k]? = some x ∧ y.r = x.r := by
  simp only [tabL, List.getElem?_map, Option.map_eq_some_iff] at h
  obtain ⟨x, h1, rfl⟩ := h
  exact ⟨x, h1, rfl⟩
theorem tabL_mem {l : List Asked} {y : T3} (h : y ∈ tabL l) : ∃ x ∈ l, y.r = x.r := by
  simp only [tabL, List.mem_map] at h
  obtain ⟨x, h1, rfl⟩ := h
  exact ⟨x, h1, rfl⟩
theorem tabL_len (l : List Asked) : (tabL l).length = l.length := by simp [tabL]
theorem ownC_drop (l : List Asked) : ∀ k, (ownC l).drop (k * 4) = ownC (l.drop k) := by
  induction l with
  | nil => intro k; simp [ownC]
  | cons x l ih =>
    intro k
    rcases k with _ | k
    · simp
    · have := ih k
      rw [show (k + 1) * 4 = k * 4 + 4 from by omega, ← List.drop_drop]
      simp only [List.drop_succ_cons]
      rw [← this]
      simp [ownC, Asked.cells]
theorem ownC_at {l : List Asked} {k : Nat} {x : Asked} (h : l[k]? = some x) : (ownC l)[k * 4]? = some (.bool x.t) ∧ (ownC l)[k * 4 + 1]? = some (.int .i64 x.r) ∧ (ownC l)[k * 4 + 2]? = some (.string x.q) ∧ (ownC l)[k * 4 + 3]? = some (.int .i64 x.a) := by
  have hd := ownC_drop l k
  obtain ⟨hk, rfl⟩ := List.getElem?_eq_some_iff.1 h
  rw [List.drop_eq_getElem_cons hk] at hd
  have h0 : ∀ j, (ownC l)[k * 4 + j]? = (ownC (l[k] :: l.drop (k + 1)))[j]? := by
    intro j
    rw [← hd, List.getElem?_drop]
  exact ⟨(h0 0).trans rfl, (h0 1).trans rfl, (h0 2).trans rfl, (h0 3).trans rfl⟩
/-- An element of the own list. -/
theorem own_at {w : World} {e : Nat} {ao : Option Addr} {n cap : Nat} {l : List Asked} (h : Sl w e 4 ao n cap (ownC l)) {k : Nat} {x : Asked} (hk : k < n) (hx : l[k]? = some x) :
    ∃ g off, ao = some ⟨g, off, none⟩ ∧ g < w.heap.size ∧ AskAt w g (off + k * 4) x := by
  obtain ⟨g, off, cur, ha, hlt, hg, hc, hr⟩ := h.2.2.2 (by have := h.2.1; omega)
  obtain ⟨e0, e1, e2, e3⟩ := ownC_at hx
  have key : ∀ j u, (ownC l)[j]? = some u → w.cell? ⟨g, off + j, none⟩ = some u := by
    intro j u hj
    have := hr j u hj
    simp [World.cell?, hg, this]
  exact ⟨g, off, ha, hlt, key (k * 4) _ e0, key (k * 4 + 1) _ e1, key (k * 4 + 2) _ e2, key (k * 4 + 3) _ e3⟩
/-- The table and the own list, side by side. -/
structure One (w0 wr : World) (tb n : Nat) (lt lo : List Asked) (o : Nat → Prop) (aw : Option Addr) (nw cw : Nat) : Prop where
  tab : Tab 49 wr tb n (tabL lt) o
  sl : Sl wr 27 4 aw nw cw (ownC lo)
  len : lo.length = nw
  ow : ∀ x, ownedBy aw cw x → w0.heap.size ≤ x ∧ ¬ o x ∧ x ≠ tb
  oo : ∀ k, o k → w0.heap.size ≤ k
  tbs : w0.heap.size ≤ tb
  bel : Below w0.heap.size w0 wr
section
variable {w0 wr w3 : World} {tb n : Nat} {lt lo : List Asked} {o : Nat → Prop} {aw : Option Addr} {nw cw : Nat}
theorem One.below (h : One w0 wr tb n lt lo o aw nw cw) (hb : Below wr.heap.size wr w3) : One w0 w3 tb n lt lo o aw nw cw :=
  ⟨h.tab.kept (S := fun k => wr.heap.size ≤ k) (Kept.of_below hb (fun k h1 h2 => h2)) (fun hx => by have := h.tab.lt; omega) (fun k hk hx => by have := h.tab.olt k hk; omega),
    h.sl.kept (S := fun k => wr.heap.size ≤ k) (Kept.of_below hb (fun k h1 h2 => h2)) (fun k hk hx => by have := h.sl.owns hk; omega), h.len, h.ow, h.oo, h.tbs, h.bel.trans (hb.mono h.bel.size)⟩
theorem One.tell (h : One w0 wr tb n lt lo o aw nw cw) {lt' : List Asked} {o' : Nat → Prop} (ht : Tab 49 w3 tb n (tabL lt') o') (hk : Kept (fun k => k = tb ∨ o k) wr w3) (ho : ∀ k, o' k → wr.heap.size ≤ k) : One w0 w3 tb n lt' lo o' aw nw cw :=
  ⟨ht, h.sl.kept hk (fun k h1 h2 => by rcases h2 with h2 | h2; exact (h.ow k h1).2.2 h2; exact (h.ow k h1).2.1 h2), h.len,
    fun x hx => ⟨(h.ow x hx).1, fun h2 => by have := ho x h2; have := h.sl.owns hx; omega, (h.ow x hx).2.2⟩, fun k hk => Nat.le_trans h.bel.size (ho k hk), h.tbs,
    h.bel.trans (hk.below (B := w0.heap.size) h.bel.size (fun k h1 => by rcases h1 with rfl | h1; exact h.tbs; exact h.oo k h1))⟩
theorem One.grow (h : One w0 wr tb n lt lo o aw nw cw) {x : Obj} {e : Asked} {aw' : Option Addr} {cw' : Nat} (hs : Sl w3 27 4 aw' (nw + 1) cw' (ownC lo ++ e.cells)) (hk : Kept (ownedBy aw cw) (wr.alloc x) w3) (ho : ∀ k, ownedBy aw' cw' k → ownedBy aw cw k ∨ k = (wr.alloc x).heap.size) :
    One w0 w3 tb n lt (lo ++ [e]) o aw' (nw + 1) cw' := by
  have k3 : Kept (ownedBy aw cw) wr w3 := ((Kept.refl _ wr).alloc x).trans hk
  refine ⟨h.tab.kept k3 (fun hx => (h.ow tb hx).2.2 rfl) (fun k h1 h2 => (h.ow k h2).2.1 h1), by rw [show ownC (lo ++ [e]) = ownC lo ++ e.cells by simp [ownC]]; exact hs, by simp [h.len], fun y hy => ?_, h.oo, h.tbs,
    h.bel.trans (k3.below (B := w0.heap.size) h.bel.size (fun k h1 => (h.ow k h1).1))⟩
  rcases ho y hy with h1 | h1
  · exact h.ow y h1
  · have hz := h.bel.size
    simp at h1
    exact ⟨by omega, fun h2 => by have := h.tab.olt y h2; omega, fun h2 => by have := h.tab.lt; omega⟩
theorem One.cut (h : One w0 wr tb n lt lo o aw nw cw) (hn : 1 ≤ nw) : One w0 wr tb n lt (lo.drop 1) o (adv aw cw 1 4) (nw - 1) (cw - 1) :=
  ⟨h.tab, by rw [← ownC_drop]; exact h.sl.cut hn, by rw [List.length_drop, h.len], fun x hx => h.ow x (adv_owned hx), h.oo, h.tbs, h.bel⟩
end
theorem ask_below {w w' : World} {b o : Nat} {x : Asked} (h : AskAt w b o x) (hb : Below w.heap.size w w') (hl : b < w.heap.size) : AskAt w' b o x :=
  ⟨(hb.cell (p := ⟨b, o, none⟩) hl).trans h.1, (hb.cell (p := ⟨b, o + 1, none⟩) hl).trans h.2.1, (hb.cell (p := ⟨b, o + 2, none⟩) hl).trans h.2.2.1, (hb.cell (p := ⟨b, o + 3, none⟩) hl).trans h.2.2.2⟩
theorem ask_new (w : World) (x : Asked) (t : TypeId) : AskAt (w.alloc (.cells #[.bool x.t, .int .i64 x.r, .string x.q, .int .i64 x.a] t)) w.heap.size 0 x := by
  simp [AskAt]
theorem ask_kept {w w' : World} {b o : Nat} {x : Asked} {S : Nat → Prop} (h : AskAt w b o x) (hk : Kept S w w') (hs : ¬ S b) (hl : b < w.heap.size) : AskAt w' b o x := by
  have key : ∀ j, w'.cell? ⟨b, j, none⟩ = w.cell? ⟨b, j, none⟩ := fun j => World.cell?_of_block (w := w) (hk.block b hl hs)
  exact ⟨(key _).trans h.1, (key _).trans h.2.1, (key _).trans h.2.2.1, (key _).trans h.2.2.2⟩
theorem info27 : (Try.prog.info? 27).map (fun i => (i.zero, i.size, i.bytes)) = some (some (.agg #[.bool false, .int .i64 0, .string ⟨#[]⟩, .int .i64 0]), 4, 40) := by kernel_rfl
theorem slice_own (w : World) (ao : Option Addr) (n cap : Nat) (hn : 1 ≤ n) : (Instr.slice 22 (.slice ao n cap) (some (.int .i64 1)) none none).run Try.prog w = .ok (.slice (adv ao cap 1 4) (n - 1) (cap - 1)) w := by
  obtain ⟨i0, hi, hz0, hz1, hz2⟩ := info_parts info27
  have he : Try.prog.elem 22 = 27 := by simp [Program.elem, Try.underlying22]
  exact run_cut (P := Try.prog) 22 4 (by rw [he]; exact Try.underlying22) (fun w => by rw [he]; simp [sizeOf, typeInfo, hi, hz1]) ao n cap 1 hn w
end Go.Proofs.Ytooknplhfimieaa

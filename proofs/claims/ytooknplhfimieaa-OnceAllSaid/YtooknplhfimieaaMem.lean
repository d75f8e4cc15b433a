/- Slices that the call itself owns, at any offset of their block, and what an append, a cut from the front and a change elsewhere make of them; over any program. Conditions: none of this is about a given program. -/
import Derived.WalkKit
import Derived.WalkSpells
import Derived.WalkLawsBesides
import Derived.Lib.Hide
import Derived.Deep.AppendSrc
import Derived.Deep.Upon
namespace Go.Mem
open Go.RowKit
variable {P : Program}

/-- Blocks in S may have changed, new ones may have come; all else is as it was. -/
structure Kept (S : Nat → Prop) (w w' : World) : Prop where
  os : w'.os = w.os
  tape : w'.tape = w.tape
  output : w'.output = w.output
  size : w.heap.size ≤ w'.heap.size
  block : ∀ k, k < w.heap.size → ¬ S k → w'.heap[k]? = w.heap[k]?
theorem Kept.refl (S : Nat → Prop) (w : World) : Kept S w w := ⟨rfl, rfl, rfl, Nat.le_refl _, fun _ _ _ => rfl⟩
theorem Kept.trans {S : Nat → Prop} {a b c : World} (h : Kept S a b) (k : Kept S b c) : Kept S a c :=
  ⟨k.os.trans h.os, k.tape.trans h.tape, k.output.trans h.output, Nat.le_trans h.size k.size, fun i hi hs => (k.block i (Nat.lt_of_lt_of_le hi h.size) hs).trans (h.block i hi hs)⟩
theorem Kept.mono {S T : Nat → Prop} {a b : World} (h : Kept S a b) (hs : ∀ k, k < a.heap.size → S k → T k) : Kept T a b :=
  ⟨h.os, h.tape, h.output, h.size, fun i hi ht => h.block i hi fun s => ht (hs i hi s)⟩
theorem Kept.drew {S : Nat → Prop} {a w : World} (h : Kept S a w) : Kept S a w.drew := ⟨h.os, h.tape, h.output, h.size, h.block⟩
theorem Kept.drewN {S : Nat → Prop} {a w : World} (h : Kept S a w) (n : Nat) : Kept S a (w.drewN n) := ⟨h.os, h.tape, h.output, h.size, h.block⟩
theorem Kept.alloc {S : Nat → Prop} {a w : World} (h : Kept S a w) (o : Obj) : Kept S a (w.alloc o) :=
  h.trans ⟨rfl, rfl, rfl, by simp, fun k hk _ => Below.heap_alloc _ _ _ hk⟩
theorem Kept.setCell {S : Nat → Prop} {a w : World} (h : Kept S a w) {p : Addr} (hp : S p.block) (u : Value) : Kept S a (w.setCell p u) :=
  h.trans ⟨rfl, rfl, rfl, by simp [World.setCell], fun k _ hs => Below.heap_setCell _ _ _ _ (fun e => hs (e ▸ hp))⟩
theorem Kept.setCell_new {S : Nat → Prop} {a w : World} (h : Kept S a w) {p : Addr} (hp : a.heap.size ≤ p.block) (u : Value) : Kept S a (w.setCell p u) :=
  ⟨h.os, h.tape, h.output, by simpa [World.setCell] using h.size, fun k hk hs => (Below.heap_setCell _ _ _ _ (by omega)).trans (h.block k hk hs)⟩
theorem Kept.below {S : Nat → Prop} {a w : World} {B : Nat} (h : Kept S a w) (hB : B ≤ a.heap.size) (hs : ∀ k, S k → B ≤ k) : Below B a w :=
  ⟨h.os, h.tape, h.output, h.size, fun k hk => h.block k (by omega) (fun s => by have := hs k s; omega)⟩
theorem Kept.of_below {S : Nat → Prop} {a w : World} {B : Nat} (h : Below B a w) (hB : ∀ k, k < a.heap.size → B ≤ k → S k) : Kept S a w :=
  ⟨h.os, h.tape, h.output, h.size, fun k hk hs => h.block k (by rcases Nat.lt_or_ge k B with h1 | h1; exact h1; exact absurd (hB k hk h1) hs)⟩

/-- The slice of n elements of `size` cells at ao, of capacity cap, whose cells read xs; it lies in a block of cells that may be written. -/
def Sl (w : World) (e : TypeId) (size : Nat) (ao : Option Addr) (n cap : Nat) (xs : List Value) : Prop :=
  xs.length = n * size ∧ n ≤ cap ∧ cap ≤ maxLen ∧
    (0 < cap → ∃ g off cur, ao = some ⟨g, off, none⟩ ∧ g < w.heap.size ∧ w.heap[g]? = some (.cells cur e (0, 0)) ∧ off + cap * size ≤ cur.size ∧ ∀ j u, xs[j]? = some u → cur[off + j]? = some u)

/-- The block that it owns. -/
def ownedBy (ao : Option Addr) (cap : Nat) (k : Nat) : Prop := 0 < cap ∧ ∃ a, ao = some a ∧ k = a.block

theorem Sl.nil (w : World) (e : TypeId) (size : Nat) : Sl w e size none 0 0 [] := ⟨by simp, Nat.le_refl _, by simp [maxLen], fun h => by omega⟩
theorem Sl.owns {w : World} {e size : Nat} {ao : Option Addr} {n cap : Nat} {xs : List Value} (h : Sl w e size ao n cap xs) {k : Nat} (hk : ownedBy ao cap k) : k < w.heap.size := by
  obtain ⟨h0, a, ha, rfl⟩ := hk
  obtain ⟨g', off', cur, ha', hlt, _⟩ := h.2.2.2 h0
  rw [ha] at ha'; cases ha'; exact hlt
theorem Sl.kept {w w' : World} {e size : Nat} {ao : Option Addr} {n cap : Nat} {xs : List Value} (h : Sl w e size ao n cap xs) {S : Nat → Prop} (hk : Kept S w w') (hs : ∀ k, ownedBy ao cap k → ¬ S k) : Sl w' e size ao n cap xs := by
  refine ⟨h.1, h.2.1, h.2.2.1, fun h0 => ?_⟩
  obtain ⟨g, off, cur, ha, hlt, hg, hr⟩ := h.2.2.2 h0
  exact ⟨g, off, cur, ha, Nat.lt_of_lt_of_le hlt hk.size, (hk.block g hlt (hs g ⟨h0, _, ha, rfl⟩)).trans hg, hr⟩
theorem Sl.drew {w : World} {e size : Nat} {ao : Option Addr} {n cap : Nat} {xs : List Value} (h : Sl w e size ao n cap xs) : Sl w.drew e size ao n cap xs := h

/-- An element's cell. -/
theorem Sl.cell {w : World} {e : Nat} {ao : Option Addr} {n cap : Nat} {xs : List Value} (h : Sl w e 1 ao n cap xs) {k : Nat} (hk : k < n) :
    ∃ g off, ao = some ⟨g, off, none⟩ ∧ w.cell? ⟨g, off + k, none⟩ = xs[k]? ∧ k < xs.length := by
  obtain ⟨g, off, cur, ha, hlt, hg, hc, hr⟩ := h.2.2.2 (by have := h.2.1; omega)
  have hl : k < xs.length := by rw [h.1]; omega
  refine ⟨g, off, ha, ?_, hl⟩
  have := hr k xs[k] (by simp [hl])
  simp [World.cell?, hg, this, hl]

/-- The address behind a cut of k elements from the front. -/
def adv (ao : Option Addr) (cap k size : Nat) : Option Addr := if cap = k then ao else ao.map (·.add (k * size))
theorem Sl.cut {w : World} {e size : Nat} {ao : Option Addr} {n cap : Nat} {xs : List Value} (h : Sl w e size ao n cap xs) {k : Nat} (hk : k ≤ n) : Sl w e size (adv ao cap k size) (n - k) (cap - k) (xs.drop (k * size)) := by
  refine ⟨by rw [List.length_drop, h.1, Nat.sub_mul], by have := h.2.1; omega, by have := h.2.2.1; omega, fun h0 => ?_⟩
  obtain ⟨g, off, cur, ha, hlt, hg, hc, hr⟩ := h.2.2.2 (by omega)
  refine ⟨g, off + k * size, cur, ?_, hlt, hg, ?_, ?_⟩
  · subst ha; rw [adv, if_neg (by omega)]; simp [Addr.add]
  · have : (cap - k) * size = cap * size - k * size := Nat.sub_mul _ _ _
    have : k * size ≤ cap * size := Nat.mul_le_mul_right _ (by omega)
    omega
  · intro j u hj
    rw [List.getElem?_drop] at hj
    rw [Nat.add_assoc]; exact hr _ _ hj
theorem adv_owned {ao : Option Addr} {cap k size b : Nat} (h : ownedBy (adv ao cap k size) (cap - k) b) : ownedBy ao cap b := by
  obtain ⟨h0, a, ha, rfl⟩ := h
  rw [adv, if_neg (by omega)] at ha
  rcases ao with _ | a'
  · simp at ha
  · simp only [Option.map_some, Option.some.injEq] at ha
    exact ⟨by omega, a', rfl, by rw [← ha]; unfold Addr.add; split <;> rfl⟩
theorem run_cut (t : TypeId) (size : Nat) (ht : P.underlying t = some (.slice (P.elem t))) (hs : ∀ w : World, (sizeOf (P.elem t)).run P w = .ok size w) (ao : Option Addr) (n cap k : Nat) (hk : k ≤ n) (w : World) :
    (Instr.slice t (.slice ao n cap) (some (.int .i64 k)) none none).run P w = .ok (.slice (adv ao cap k size) (n - k) (cap - k)) w := by
  rw [run_slice_l w t ao n cap ht .i64 k (by omega) (by omega), hs]
  simp [Result.andThen, sliced, adv]

theorem heap_setCell_same (w : World) (g o : Nat) (v : Value) (cur : Array Value) (e : TypeId) (fr : Nat × Nat) (hg : w.heap[g]? = some (.cells cur e fr)) :
    (w.setCell ⟨g, o, none⟩ v).heap[g]? = some (.cells (cur.setIfInBounds o v) e fr) := by
  simp [World.setCell, Array.getElem?_modify, hg]
theorem heap_setCells (g : Nat) (e : TypeId) (fr : Nat × Nat) : ∀ (vs : List Value) (o : Nat) (w : World) (cur : Array Value), w.heap[g]? = some (.cells cur e fr) → o + vs.length ≤ cur.size →
    ∃ cur', (w.setCells g o vs).heap[g]? = some (.cells cur' e fr) ∧ cur'.size = cur.size ∧ (∀ j, j < o → cur'[j]? = cur[j]?) ∧ (∀ j u, vs[j]? = some u → cur'[o + j]? = some u)
  | [], o, w, cur, hg, _ => ⟨cur, hg, rfl, fun _ _ => rfl, fun j u h => by simp at h⟩
  | v :: r, o, w, cur, hg, hl => by
    have hl' : o + (r.length + 1) ≤ cur.size := by simpa using hl
    obtain ⟨cur', h1, h2, h3, h4⟩ := heap_setCells g e fr r (o + 1) (w.setCell ⟨g, o, none⟩ v) _ (heap_setCell_same w g o v cur e fr hg) (by simp; omega)
    refine ⟨cur', h1, by rw [h2]; simp, fun j hj => ?_, fun j u hj => ?_⟩
    · rw [h3 j (by omega), Array.getElem?_setIfInBounds_ne (by omega)]
    · rcases j with _ | j
      · have e0 : v = u := by simpa using hj
        subst e0
        rw [Nat.add_zero, h3 o (by omega), Array.getElem?_setIfInBounds_self_of_lt (by omega)]
      · have := h4 j u (by simpa using hj)
        rw [← this]; congr 1; omega
theorem tape_setCells (g : Nat) : ∀ (vs : List Value) (o : Nat) (w : World), (w.setCells g o vs).tape = w.tape ∧ (w.setCells g o vs).heap.size = w.heap.size
  | [], _, _ => ⟨rfl, rfl⟩
  | v :: r, o, w => ⟨(tape_setCells g r (o + 1) _).1, (tape_setCells g r (o + 1) _).2.trans (by simp [World.setCell])⟩
theorem zero_size (z : Array Value) (n : Nat) : (Builtin.zeroCells z n).size = n * z.size := by simp [Builtin.zeroCells]

/-- append(x, news...): in place, or in a new block. -/
theorem run_append_sl (w : World) (t tx ty e : TypeId) (i : TypeInfo) (z : Value) (ht : P.underlying t = some (.slice e)) (hi : P.info? e = some i) (hz : i.zero = some z) (hzs : z.cells.size = i.size)
    (ao : Option Addr) (n cap : Nat) (xs : List Value) (h : Sl w e i.size ao n cap xs) (x : Value) (m : Nat) (news : List Value) (hs : Src P i.size tx x m news w)
    (h63 : n + m ≤ maxLen) (hbytes : (n + m) * i.bytes ≤ 140737488355328) :
    ∃ ao' cap' w', (Builtin.append_ #[t, tx] ty #[.slice ao n cap, x]).run P w = .ok (.slice ao' (n + m) cap') w' ∧ Sl w' e i.size ao' (n + m) cap' (xs ++ news) ∧
      Kept (ownedBy ao cap) w w' ∧ (∀ k, ownedBy ao' cap' k → ownedBy ao cap k ∨ k = w.heap.size) := by
  have hlen : (xs ++ news).length = (n + m) * i.size := by rw [List.length_append, h.1, hs.newsLen, Nat.add_mul]
  have hsmall : n + m ≤ 9223372036854775807 := by simp only [maxLen] at h63; omega
  by_cases hroom : n + m ≤ cap
  · by_cases hc0 : cap = 0
    · subst hc0
      obtain rfl : n = 0 := by omega
      obtain rfl : m = 0 := by omega
      have hx : xs = [] := List.eq_nil_of_length_eq_zero (by simpa using h.1)
      have hn : news = [] := List.eq_nil_of_length_eq_zero (by simpa using hs.newsLen)
      subst hx; subst hn
      exact ⟨ao, 0, w, run_append_nothing w t tx ty e i ht hi ao 0 0 (Nat.le_refl _) x hs, h, Kept.refl _ _, fun k hk => .inl hk⟩
    · obtain ⟨g, off, cur, rfl, hlt, hg, hc, hr⟩ := h.2.2.2 (by omega)
      have hmul : (n + m) * i.size ≤ cap * i.size := Nat.mul_le_mul_right _ hroom
      have hadd : (n + m) * i.size = n * i.size + m * i.size := Nat.add_mul _ _ _
      have hnl := hs.newsLen
      have hxl := h.1
      obtain ⟨cur', c1, c2, c3, c4⟩ := heap_setCells g e (0, 0) news (off + n * i.size) w cur hg (by omega)
      refine ⟨some ⟨g, off, none⟩, cap, w.setCells g (off + n * i.size) news, run_append_room_src w t tx ty e i ht hi g off n cap x m news hs hroom (fun j hj => ?_) (fun j hj => ?_), ⟨hlen, hroom, h.2.2.1, fun _ => ⟨g, off, cur', rfl, ?_, c1, by rw [c2]; exact hc, fun j u hj => ?_⟩⟩,
        ⟨World.os_setCells _ _ _ _, (tape_setCells _ _ _ _).1, World.output_setCells _ _ _ _, by rw [(tape_setCells _ _ _ _).2]; exact Nat.le_refl _, fun k hk hne => World.heap_setCells_other w g _ _ hk (fun e => hne ⟨by omega, _, rfl, e⟩)⟩, fun k hk => .inl hk⟩
      · have : off + n * i.size + j < cur.size := by omega
        simp [World.cell?, hg, this]
      · simp [World.frozen?, hg]
      · rw [(tape_setCells _ _ _ _).2]; exact hlt
      · rcases Nat.lt_or_ge j xs.length with hj1 | hj1
        · rw [c3 _ (by omega)]
          rw [List.getElem?_append_left hj1] at hj
          exact hr j u hj
        · rw [List.getElem?_append_right hj1] at hj
          have := c4 _ u hj
          rw [← this]; congr 1; omega
  · have hge := grownCap_ge w (n + m) cap e
    have hcm : grownCap w (n + m) cap e ≤ maxLen := grownCap_le_maxLen w (n + m) cap e h63
    have hold : (Builtin.firstCells i.size n (.slice ao n cap)).run P w.drew = .ok xs.toArray w.drew := by
      by_cases hc0 : cap = 0
      · obtain rfl : n = 0 := by have := h.2.1; omega
        have hx : xs = [] := List.eq_nil_of_length_eq_zero (by simpa using h.1)
        subst hx
        rcases ao with _ | a
        · exact run_firstCells_none w.drew _ _ _ _
        · exact run_firstCells_some w.drew i.size 0 a 0 cap [] (by simp) (by simp)
      · obtain ⟨g, off, cur, rfl, hlt, hg, hc, hr⟩ := h.2.2.2 (by omega)
        refine run_firstCells_some w.drew i.size n ⟨g, off, none⟩ n cap xs h.1 (fun j u hj => ?_)
        have := hr j u hj
        have hadd : (⟨g, off, none⟩ : Addr).add j = ⟨g, off + j, none⟩ := by unfold Addr.add; split <;> simp_all
        rw [hadd]
        show w.cell? _ = _
        simp [World.cell?, hg, this]
    refine ⟨some ⟨w.heap.size, 0, none⟩, grownCap w (n + m) cap e, _, run_append_grow_src w t tx ty e i z ht hi hz ao n cap xs hold x m news hs (by omega) (by omega) (growslice_fits (by omega) hbytes), ⟨hlen, hge, hcm, fun _ => ⟨w.heap.size, 0, _, rfl, by simp, heap_alloc_new w.drew _, ?_, fun j u hj => ?_⟩⟩, ((Kept.refl _ w).drew).alloc _, fun k hk => .inr (by obtain ⟨_, a, ha, rfl⟩ := hk; cases ha; rfl)⟩
    · simp only [Array.size_append, List.size_toArray, zero_size, hzs, hlen, ← Nat.add_mul]
      rw [Nat.zero_add, show n + m + (grownCap w (n + m) cap e - (n + m)) = grownCap w (n + m) cap e from by omega]
      exact Nat.le_refl _
    · rw [Nat.zero_add]
      have hj' : j < (xs ++ news).length := (List.getElem?_eq_some_iff.1 hj).1
      rw [Array.getElem?_append_left (by simpa using hj')]
      simpa using hj
theorem wpList_append_sl (w : World) {ops : Array Oper} {rest : List Oper} {o : Oper} {a : Act} {Q : Exit → Act → World → Prop} (hgd : o.guard = none) (s x : Operand) (t tx : TypeId)
    (ho : o.op = .call { callee := .builtin .append, args := #[s, x], argTypes := #[t, tx] })
    (e : TypeId) (i : TypeInfo) (z : Value) (size bytes : Nat) (ht : P.underlying t = some (.slice e)) (hi : P.info? e = some i) (hz : i.zero = some z) (hsize : i.size = size) (hby : i.bytes = bytes) (hzs : z.cells.size = size)
    (ao : Option Addr) (n cap : Nat) (xs : List Value) (h : Sl w e size ao n cap xs) (hes : a.eval s = .slice ao n cap) (v : Value) (hex : a.eval x = v) (m : Nat) (news : List Value) (hs : Src P size tx v m news w)
    (h63 : n + m ≤ maxLen) (hbytes : (n + m) * bytes ≤ 140737488355328)
    (hK : ∀ ao' cap' w', Sl w' e size ao' (n + m) cap' (xs ++ news) → Kept (ownedBy ao cap) w w' → (∀ k, ownedBy ao' cap' k → ownedBy ao cap k ∨ k = w.heap.size) → wpList P ops Q rest (a.put o.dst (.slice ao' (n + m) cap')) w') :
    wpList P ops Q (o :: rest) a w :=
  wpList_plain hgd fun K hK' => by
    subst hsize; subst hby
    obtain ⟨ao', cap', w', hr, h2, h3, h4⟩ := run_append_sl (P := P) w t tx o.type e i z ht hi hz hzs ao n cap xs h v m news hs h63 hbytes
    unfold Oper.wp execOp
    simp only [ho, resolve, invoke, builtin, Sem.run_bind, Sem.run_pure, Result.andThen_ok, List.map_toArray, List.map_cons, List.map_nil, hes, hex, hr]
    exact hK' _ _ (hK ao' cap' w' h2 h3 h4)

/-- A slice that came in, read element by element (each of one cell). -/
def Arg1 (w : World) (ao : Option Addr) (len : Nat) (V : Nat → Value) : Prop :=
  len ≤ maxLen ∧ (0 < len → ∃ b off, ao = some ⟨b, off, none⟩ ∧ b < w.heap.size ∧ ∀ k, k < len → w.cell? ⟨b, off + k, none⟩ = some (V k))
theorem Arg1.below {w w' : World} {ao : Option Addr} {len : Nat} {V : Nat → Value} (h : Arg1 w ao len V) (hb : Below w.heap.size w w') : Arg1 w' ao len V := by
  refine ⟨h.1, fun h0 => ?_⟩
  obtain ⟨b, off, ha, hl, hc⟩ := h.2 h0
  exact ⟨b, off, ha, Nat.lt_of_lt_of_le hl hb.size, fun k hk => (hb.cell (p := ⟨b, off + k, none⟩) hl).trans (hc k hk)⟩
theorem srcOne {tx e' : TypeId} (w : World) (hk : P.underlying tx = some (.slice e')) (v : Value) (hv : v.oneCell' = true) (t : TypeId) :
    Src P 1 tx (.slice (some ⟨w.heap.size, 0, none⟩) 1 1) 1 [v] (w.alloc (.cells #[v] t)) :=
  Src.ofSlice _ hk _ 1 1 [v] rfl (fun j u hj => by
    rcases j with _ | j
    · have e : v = u := by simpa using hj
      subst e
      simp [Addr.add]
    · simp at hj) (fun u hu => by simp only [List.mem_singleton] at hu; subst hu; exact hv)
/-- The elements of an owned slice, as a source. -/
theorem Sl.src {w : World} {e e' tx : TypeId} {size : Nat} {ao : Option Addr} {n cap : Nat} {xs : List Value} (h : Sl w e size ao n cap xs) (hk : P.underlying tx = some (.slice e')) (h1 : ∀ u ∈ xs, u.oneCell' = true) :
    Src P size tx (.slice ao n cap) n xs w := by
  rcases Nat.eq_zero_or_pos cap with hc0 | hc0
  · subst hc0
    obtain rfl : n = 0 := by have := h.2.1; omega
    have hx : xs = [] := List.eq_nil_of_length_eq_zero (by simpa using h.1)
    subst hx
    rcases ao with _ | a
    · exact Src.ofNil w hk _
    · exact Src.ofSlice w hk a 0 0 [] (by simp) (by simp) (by simp)
  · obtain ⟨g, off, cur, rfl, hlt, hg, hc, hr⟩ := h.2.2.2 hc0
    refine Src.ofSlice w hk ⟨g, off, none⟩ n cap xs h.1 (fun j u hj => ?_) h1
    have := hr j u hj
    have hadd : (⟨g, off, none⟩ : Addr).add j = ⟨g, off + j, none⟩ := by unfold Addr.add; split <;> simp_all
    rw [hadd]
    simp [World.cell?, hg, this]
/-- An element of three cells. -/
theorem Sl.cell3 {w : World} {e : Nat} {ao : Option Addr} {n cap : Nat} {xs : List Value} (h : Sl w e 3 ao n cap xs) {k : Nat} (hk : k < n) :
    ∃ g off, ao = some ⟨g, off, none⟩ ∧ g < w.heap.size ∧ w.cell? ⟨g, off + k * 3, none⟩ = xs[k * 3]? ∧ w.cell? ⟨g, off + k * 3 + 1, none⟩ = xs[k * 3 + 1]? ∧ w.cell? ⟨g, off + k * 3 + 2, none⟩ = xs[k * 3 + 2]? := by
  obtain ⟨g, off, cur, ha, hlt, hg, hc, hr⟩ := h.2.2.2 (by have := h.2.1; omega)
  have hl : k * 3 + 2 < xs.length := by rw [h.1]; omega
  have key : ∀ j, j < xs.length → w.cell? ⟨g, off + j, none⟩ = xs[j]? := by
    intro j hj
    have := hr j xs[j] (by simp [hj])
    simp [World.cell?, hg, this, hj]
  exact ⟨g, off, ha, hlt, key (k * 3) (by omega), key (k * 3 + 1) (by omega), key (k * 3 + 2) (by omega)⟩
/-- The copy of a slice in a new block: append to an empty slice. -/
theorem Sl.empty (w : World) (e size : Nat) (a : Addr) : Sl w e size (some a) 0 0 [] := ⟨by simp, Nat.le_refl _, by simp [maxLen], fun h => by omega⟩
theorem Sl.none {w : World} {e size n cap : Nat} {xs : List Value} (h : Sl w e size none n cap xs) : n = 0 ∧ cap = 0 ∧ xs = [] := by
  have h0 : cap = 0 := by
    rcases Nat.eq_zero_or_pos cap with h0 | h0
    · exact h0
    · obtain ⟨g, off, cur, ha, _⟩ := h.2.2.2 h0
      cases ha
  have hn : n = 0 := by have := h.2.1; omega
  exact ⟨hn, h0, List.eq_nil_of_length_eq_zero (by rw [h.1, hn]; simp)⟩
end Go.Mem

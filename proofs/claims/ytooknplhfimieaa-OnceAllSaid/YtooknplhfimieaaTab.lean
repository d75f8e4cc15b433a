/- What once's methods do, told of the list of what was told. Conditions: the table was made by New. -/
import Derived.Test.YtooknplhfimieaaRows
import Derived.Test.YtooknplhfimieaaMem
import Derived.Lib.SliceRun
import Derived.StillTailTactics
import Derived.Deep.AppendLies
import Derived.Deep.RegionLaw
namespace Go.Proofs.Ytooknplhfimieaa
open Go.RowKit Go.Mem
theorem cell_lt {w : World} {b o : Nat} {v : Value} (h : w.cell? ⟨b, o, none⟩ = some v) : b < w.heap.size := by
  rcases Nat.lt_or_ge b w.heap.size with h1 | h1
  · exact h1
  · simp [World.cell?, h1] at h
/-- What was told to a request: its number, the question, the answer. -/
structure T3 where
  r : Int
  q : Value
  a : Value
def T3.cells (x : T3) : List Value := [.int .i64 x.r, x.q, x.a]
def cellsOf (l : List T3) : List Value := l.flatMap T3.cells
theorem srcNew {P : Program} {tx e' : TypeId} (w : World) (hk : P.underlying tx = some (.slice e')) (vs : List Value) (m size : Nat) (hl : vs.length = m * size) (h1 : ∀ u ∈ vs, u.oneCell' = true) (t : TypeId) :
    Src P size tx (.slice (some ⟨w.heap.size, 0, none⟩) m m) m vs (w.alloc (.cells vs.toArray t)) :=
  Src.ofSlice _ hk _ m m vs hl (fun j u hj => by
    have : (⟨w.heap.size, 0, none⟩ : Addr).add j = ⟨w.heap.size, j, none⟩ := by unfold Addr.add; split <;> simp_all
    rw [this, World.cell?_alloc_new]
    simpa using hj) h1
theorem cell_of_block {w : World} {b : Nat} {cs : Array Value} {T : TypeId} {fr : Nat × Nat} (h : w.heap[b]? = some (.cells cs T fr)) (j : Nat) (v : Value) (hv : cs[j]? = some v) : w.cell? ⟨b, j, none⟩ = some v := by
  simp [World.cell?, h, hv]
theorem free_of_block {w : World} {b : Nat} {cs : Array Value} {T : TypeId} (h : w.heap[b]? = some (.cells cs T (0, 0))) (j : Nat) : w.frozen? ⟨b, j, none⟩ = false := by
  simp [World.frozen?, h]
theorem tell_b {w w1 w5 : World} {o : Obj} {x : Obj} {S : Nat → Prop} {b : Nat} (hk : Kept S (w1.alloc o) w5) (hb : Below w.heap.size w w1) (hlt : b < w.heap.size) (hs : ¬ S b) (h : w.heap[b]? = some x) : w5.heap[b]? = some x := by
  have hz := hb.size
  rw [hk.block b (by simp; omega) hs, Below.heap_alloc _ _ _ (by omega), hb.block b hlt, h]
/-- Behind the append and the store. -/
theorem tell_6 {w w1 w5 w6 : World} {o : Obj} {ao ao' : Option Addr} {cap cap' L n b : Nat} {T e : TypeId} {xs : List Value} {O : Nat → Prop} (hw : w6 = w5.setCell ⟨b, 1, none⟩ (.slice ao' (L + 1) cap')) (hb5 : w5.heap[b]? = some (.cells #[.int .i64 n, .slice ao L cap] T (0, 0)))
    (hs : Sl w5 e 3 ao' (L + 1) cap' xs) (hk : Kept (ownedBy ao cap) (w1.alloc o) w5) (hown : ∀ k, ownedBy ao' cap' k → ownedBy ao cap k ∨ k = (w1.alloc o).heap.size) (hb : Below w.heap.size w w1) (hlt : b < w.heap.size) (hn : ¬ ownedBy ao cap b) (hO : ∀ k, ownedBy ao cap k → O k) :
    w6.heap[b]? = some (.cells #[.int .i64 n, .slice ao' (L + 1) cap'] T (0, 0)) ∧ Kept (fun k => k = b ∨ O k) w w6 ∧ Sl w6 e 3 ao' (L + 1) cap' xs := by
  have hz := hb.size
  have hnb : ¬ ownedBy ao' cap' b := fun h => by
    rcases hown b h with h1 | h1
    · exact hn h1
    · simp at h1; omega
  subst hw
  refine ⟨by rw [Go.Mem.heap_setCell_same w5 b 1 _ _ T (0, 0) hb5]; simp, ?_, hs.kept (S := fun k => k = b) ((Kept.refl (fun k => k = b) w5).setCell (p := ⟨b, 1, none⟩) rfl _) (fun k h1 h2 => hnb (h2 ▸ h1))⟩
  have k1 : Kept (fun k => k = b ∨ O k) w w1 := Kept.of_below hb (fun k h1 h2 => by omega)
  have k2 : Kept (fun k => k = b ∨ O k) (w1.alloc o) w5 := hk.mono (fun k _ h => .inr (hO k h))
  exact ((k1.alloc o).trans k2).trans ((Kept.refl _ w5).setCell (p := ⟨b, 1, none⟩) (.inl rfl) _)
theorem cellsOf_len (l : List T3) : (cellsOf l).length = l.length * 3 := by
  induction l with
  | nil => rfl
  | cons x l ih => simp [cellsOf, T3.cells] at ih ⊢; omega
theorem cellsOf_append (l m : List T3) : cellsOf (l ++ m) = cellsOf l ++ cellsOf m := by simp [cellsOf]
theorem cellsOf_drop (l : List T3) : ∀ k, (cellsOf l).drop (k * 3) = cellsOf (l.drop k) := by
  induction l with
  | nil => intro k; simp [cellsOf]
  | cons x l ih =>
    intro k
    rcases k with _ | k
    · simp
    · have := ih k
      rw [show (k + 1) * 3 = k * 3 + 3 from by omega, ← List.drop_drop]
      simp only [List.drop_succ_cons]
      rw [← this]
      simp [cellsOf, T3.cells]
theorem cellsOf_at (l : List T3) : ∀ (k : Nat) (x : T3), l[k]? = some x → (cellsOf l)[k * 3]? = some (.int .i64 x.r) ∧ (cellsOf l)[k * 3 + 1]? = some x.q ∧ (cellsOf l)[k * 3 + 2]? = some x.a := by
  intro k x h
  have hd := cellsOf_drop l k
  obtain ⟨hk, rfl⟩ := List.getElem?_eq_some_iff.1 h
  rw [List.drop_eq_getElem_cons hk] at hd
  have h0 : ∀ j, (cellsOf l)[k * 3 + j]? = (cellsOf (l[k] :: l.drop (k + 1)))[j]? := by
    intro j
    rw [← hd, List.getElem?_drop]
  exact ⟨(h0 0).trans rfl, (h0 1).trans rfl, (h0 2).trans rfl⟩
theorem cellsOf_one (l : List T3) (h : ∀ x ∈ l, x.q.oneCell' = true ∧ x.a.oneCell' = true) : ∀ u ∈ cellsOf l, u.oneCell' = true := by
  intro u hu
  simp only [cellsOf, List.mem_flatMap, T3.cells, List.mem_cons, List.not_mem_nil, or_false] at hu
  obtain ⟨x, hx, rfl | rfl | rfl⟩ := hu
  · rfl
  · exact (h x hx).1
  · exact (h x hx).2
/-- Where a request stands; as many as there are: nowhere. -/
def posOf (l : List T3) (r : Int) : Nat := l.findIdx (fun x => x.r == r)
def posI (l : List T3) (r : Int) : Int := if posOf l r < l.length then posOf l r else -1
theorem posI_none {l : List T3} {r : Int} (h : ∀ x ∈ l, x.r ≠ r) : posI l r = -1 := by
  have : ¬ posOf l r < l.length := by
    unfold posOf
    rw [List.findIdx_lt_length]
    rintro ⟨x, hx, he⟩
    exact h x hx (by simpa using he)
  rw [posI, if_neg this]
theorem posI_at {l : List T3} {r : Int} {k : Nat} {x : T3} (hx : l[k]? = some x) (hr : x.r = r) (hb : ∀ j y, j < k → l[j]? = some y → y.r ≠ r) : posI l r = k := by
  obtain ⟨hk, rfl⟩ := List.getElem?_eq_some_iff.1 hx
  have h1 : posOf l r = k := by
    unfold posOf
    rw [List.findIdx_eq hk]
    refine ⟨by simpa using hr, fun j hj => ?_⟩
    have := hb j l[j] hj (by simp)
    simpa using this
  rw [posI, h1, if_pos hk]
/-- The table: its room, its answers; o: the blocks of its list. -/
structure Tab (told : TypeId) (w : World) (b : Nat) (n : Nat) (l : List T3) (o : Nat → Prop) : Prop where
  lt : b < w.heap.size
  ob : ¬ o b
  olt : ∀ k, o k → k < w.heap.size
  one : ∀ x ∈ l, x.q.oneCell' = true ∧ x.a.oneCell' = true
  len : l.length ≤ n
  hb : ∃ T ao cap, w.heap[b]? = some (.cells #[.int .i64 n, .slice ao l.length cap] T (0, 0)) ∧ Sl w told 3 ao l.length cap (cellsOf l) ∧ ∀ k, ownedBy ao cap k → o k
theorem tell_end {told : TypeId} {w w6 w7 : World} {b n L m : Nat} {l' : List T3} {o : Nat → Prop} {ao ao2 : Option Addr} {cap cap2 : Nat} {T : TypeId} (hb6 : w6.heap[b]? = some (.cells #[.int .i64 n, .slice ao L cap] T (0, 0))) (k6 : Kept (fun k => k = b ∨ o k) w w6)
    (hs7 : Sl w7 told 3 ao2 m cap2 (cellsOf l')) (k7 : Kept (fun _ => False) w6.drew w7) (o7 : ∀ k, ownedBy ao2 cap2 k → w6.drew.heap.size ≤ k) (h1 : ∀ x ∈ l', x.q.oneCell' = true ∧ x.a.oneCell' = true) (hl : l'.length ≤ n) (hlt : b < w.heap.size) (hm : m = l'.length) :
    Ending.returned (.bool true) = Ending.returned (.bool true) ∧ ∃ o', Tab told (w7.setCell ⟨b, 1, none⟩ (.slice ao2 m cap2)) b n l' o' ∧ Kept (fun k => k = b ∨ o k) w (w7.setCell ⟨b, 1, none⟩ (.slice ao2 m cap2)) ∧ ∀ k, o' k → w.heap.size ≤ k := by
  subst hm
  have z6 := k6.size
  have z7 : w6.heap.size ≤ w7.heap.size := k7.size
  have hb7 : w7.heap[b]? = some (.cells #[.int .i64 n, .slice ao L cap] T (0, 0)) := (k7.block b (show b < w6.heap.size by omega) (fun h => h)).trans hb6
  have kk : Kept (fun k => k = b ∨ o k) w w7 := k6.trans ((Kept.refl _ w6).drew.trans (k7.mono (fun _ _ h => h.elim)))
  refine ⟨rfl, ownedBy ao2 cap2, ⟨by simp [World.setCell]; omega, fun hx => ?_, fun k hk => by have := hs7.owns hk; simpa [World.setCell] using this, h1, hl, T, ao2, cap2, by rw [Go.Mem.heap_setCell_same w7 b 1 _ _ T (0, 0) hb7]; simp, hs7.kept (S := fun k => k = b) ((Kept.refl (fun k => k = b) w7).setCell (p := ⟨b, 1, none⟩) rfl _) (fun k hx hk => ?_), fun k hk => hk⟩,
    kk.trans ((Kept.refl _ w7).setCell (p := ⟨b, 1, none⟩) (.inl rfl) _), fun k hk => ?_⟩
  · have : w6.heap.size ≤ b := o7 b hx
    omega
  · have : w6.heap.size ≤ k := o7 k hx
    omega
  · have : w6.heap.size ≤ k := o7 k hk
    omega
section
variable {told : TypeId} {w w' : World} {b n : Nat} {l : List T3} {o : Nat → Prop}
theorem Tab.kept (h : Tab told w b n l o) {S : Nat → Prop} (hk : Kept S w w') (h1 : ¬ S b) (h2 : ∀ k, o k → ¬ S k) : Tab told w' b n l o := by
  obtain ⟨a1, a2, a8, a3, a4, T, ao, cap, a5, a6, a7⟩ := h
  have := hk.size
  exact ⟨by omega, a2, fun k hk => by have := a8 k hk; omega, a3, a4, T, ao, cap, (hk.block _ a1 h1).trans a5, a6.kept hk (fun k h => h2 k (a7 k h)), a7⟩
theorem Tab.alloc (h : Tab told w b n l o) (x : Obj) : Tab told (w.alloc x) b n l o := h.kept ((Kept.refl (fun _ => False) w).alloc x) (fun h => h) (fun _ _ h => h)
theorem Tab.drewN (h : Tab told w b n l o) (k : Nat) : Tab told (w.drewN k) b n l o := h.kept ((Kept.refl (fun _ => False) w).drewN k) (fun h => h) (fun _ _ h => h)
end
theorem infot_SI : (Try.prog.info? 49).map (fun i => (i.zero, i.size, i.bytes)) = some (some (.agg #[.int .i64 0, .string ⟨#[]⟩, .int .i64 0]), 3, 32) := by kernel_rfl
set_option maxHeartbeats 400000 in
theorem clos_SI (x : T3) (r : Int) (c : Nat) (w : World) (hc : w.cell? ⟨c, 0, none⟩ = some (.int .i64 r)) :
    Calls Try.prog 27 #[.agg #[.int .i64 x.r, x.q, x.a], .pointer (some ⟨c, 0, none⟩)] w fun e w' => e = .returned (.bool (x.r == r)) ∧ Below w.heap.size w w' := by
  obtain ⟨xr, xq, xa⟩ := x
  have hlt : c < w.heap.size := cell_lt hc
  go_enter Try.func27, Try.ntmps27
  go_wp2
  go_ret
  exact ⟨rfl, (Below.refl _ _).alloc (Nat.le_refl _) _⟩
set_option maxHeartbeats 400000 in
theorem idx_SI (ao : Option Addr) (cap : Nat) (l : List T3) (r : Int) (c : Nat) (w : World) (hc : w.cell? ⟨c, 0, none⟩ = some (.int .i64 r)) (hs : Sl w 49 3 ao l.length cap (cellsOf l)) (hl : l.length ≤ 1000000) :
    Calls Try.prog 26 #[.slice ao l.length cap, .func (.func 27) #[] #[.pointer (some ⟨c, 0, none⟩)]] w fun e w' => e = .returned (.int .i64 (posI l r)) ∧ Below w.heap.size w w' := by
  have hlt := cell_lt hc
  have HC := Lib.hid hc
  have HS := Lib.hid hs
  obtain ⟨n, hn⟩ : ∃ n, n = l.length := ⟨_, rfl⟩
  rw [← hn] at hl ⊢
  have HN := Lib.hid hn
  clear hc hs hn
  go_enter Try.func26, Try.ntmps26
  go_wp2
  go_loopw [8] (fun i wr => ∃ k : Nat, k ≤ n ∧ i = .int .i64 k ∧ Hid (∀ j y, j < k → l[j]? = some y → y.r ≠ r) ∧ Hid (Below w.heap.size w wr)) (fun i _ => n - (intOf i).toNat)
  case atStart => exact ⟨0, Nat.zero_le _, rfl, Lib.hid (fun j _ h => absurd h (by omega)), Lib.hid (Below.refl _ _)⟩
  case round =>
    obtain ⟨k, hk, rfl, hno, hB⟩ := hrel
    by_cases hlk : k < n
    · have hkl : k < l.length := by have := HN.out; omega
      obtain ⟨x, hx⟩ : ∃ x, l[k]? = some x := ⟨l[k], by simp [hkl]⟩
      obtain ⟨g, off, rfl, hg, h0, h1, h2⟩ := HS.out.cell3 hkl
      obtain ⟨e0, e1, e2⟩ := cellsOf_at l k x hx
      have c0 : wr.cell? ⟨g, off + k * 3, none⟩ = some (.int .i64 x.r) := (hB.out.cell (p := ⟨g, off + k * 3, none⟩) hg).trans (h0.trans e0)
      have c1 : wr.cell? ⟨g, off + k * 3 + 1, none⟩ = some x.q := (hB.out.cell (p := ⟨g, off + k * 3 + 1, none⟩) hg).trans (h1.trans e1)
      have c2 : wr.cell? ⟨g, off + k * 3 + 2, none⟩ = some x.a := (hB.out.cell (p := ⟨g, off + k * 3 + 2, none⟩) hg).trans (h2.trans e2)
      have hcc := (hB.out.cell (p := ⟨c, 0, none⟩) hlt).trans HC.out
      have HX := Lib.hid hx
      have HCC := Lib.hid hcc
      clear h0 h1 h2 e0 e1 e2 hx hcc hkl
      go_wp2_with fail
      refine (clos_SI x r c _ HCC.out).mono ?_
      rintro e w3 ⟨rfl, b3⟩
      have B3 := Lib.hid (hB.out.trans (b3.mono hB.out.size))
      clear b3 c0 c1 c2 HCC
      rcases hr : (x.r == r) with _ | _
      · have HR := Lib.hid hr
        clear hr
        go_wp2
        go_roundw
        case rel => exact ⟨k + 1, by omega, by go_num, Lib.hid (fun j y hj hy => by
          rcases Nat.lt_succ_iff_lt_or_eq.1 hj with h | h
          · exact hno.out j y h hy
          · subst h; rw [HX.out] at hy; cases hy; have := HR.out; simpa using this), B3⟩
        case measure => simp [intOf]; omega
      · have hp := posI_at HX.out (by simpa using hr) hno.out
        have HP := Lib.hid hp
        clear hr hp
        go_wp2
        go_ret
        exact ⟨by rw [HP.out]; rfl, B3.out⟩
    · have hp : posI l r = -1 := posI_none (fun x hx => by
        obtain ⟨j, hj, rfl⟩ := List.getElem_of_mem hx
        exact hno.out j _ (by have := HN.out; omega) (by simp))
      have HP := Lib.hid hp
      clear hp
      go_wp2
      go_ret
      exact ⟨by rw [HP.out]; rfl, hB.out⟩
set_option maxHeartbeats 400000 in
theorem find_SI (w : World) (b n : Nat) (l : List T3) (o : Nat → Prop) (h : Tab 49 w b n l o) (hn : n ≤ 1000) (r : Int) :
    Calls Try.prog 20 #[.pointer (some ⟨b, 0, none⟩), .int .i64 r] w fun e w' => e = .returned (.int .i64 (posI l r)) ∧ Below w.heap.size w w' := by
  obtain ⟨T, ao, cap, hb, hs, _⟩ := h.hb
  have c1 : (w.alloc (.cells #[.int .i64 r] 2)).cell? ⟨b, 1, none⟩ = some (.slice ao l.length cap) := by
    rw [World.cell?_alloc_past _ _ _ h.lt]; simp [World.cell?, hb]
  have hll := h.len
  have HL := Lib.hid (show l.length ≤ 1000000 by omega)
  have HS := Lib.hid (hs.kept ((Kept.refl (fun _ => False) w).alloc (.cells #[.int .i64 r] 2)) (fun _ _ h => h))
  clear h hs hb hn hll
  go_enter Try.func20, Try.ntmps20
  go_wp2_with fail
  refine (idx_SI ao cap l r w.heap.size _ (by simp) HS.out HL.out).mono ?_
  rintro e w3 ⟨rfl, b3⟩
  have B3 := Lib.hid (((Below.refl w.heap.size w).alloc (Nat.le_refl _) _).trans (b3.mono (by simp)))
  clear b3
  go_wp2
  go_ret
  exact ⟨rfl, B3.out⟩
set_option maxHeartbeats 400000 in
theorem len_SI (w : World) (b n : Nat) (l : List T3) (o : Nat → Prop) (h : Tab 49 w b n l o) :
    Calls Try.prog 12 #[.pointer (some ⟨b, 0, none⟩)] w fun e w' => e = .returned (.int .i64 l.length) ∧ w' = w := by
  obtain ⟨T, ao, cap, hb, hs, _⟩ := h.hb
  have c1 : w.cell? ⟨b, 1, none⟩ = some (.slice ao l.length cap) := by simp [World.cell?, hb]
  clear h hs hb
  go_enter Try.func12, Try.ntmps12
  go_wp2
  go_ret
  exact ⟨rfl, rfl⟩
set_option maxHeartbeats 400000 in
theorem new_SI (r : Int) (n : Nat) (hn : n = max 1 (min r.toNat 100)) (w : World) :
    Calls Try.prog 9 #[.int .i64 r] w fun e w' => e = .returned (.pointer (some ⟨w.heap.size, 0, none⟩)) ∧ Tab 49 w' w.heap.size n [] (fun _ => False) ∧ Kept (fun _ => False) w w' := by
  obtain ⟨R, hR⟩ : ∃ R : Int, R = (if r < 1 then 1 else r) := ⟨_, rfl⟩
  have hmax : ∀ (w : World) ts t, (Builtin.max_ ts t #[.int .i64 r, .int .i64 1]).run Try.prog w = .ok (.int .i64 R) w := fun w ts t => by rw [run_max_int2, hR]
  have hmin : ∀ (w : World) ts t, (Builtin.min_ ts t #[.int .i64 R, .int .i64 100]).run Try.prog w = .ok (.int .i64 n) w := fun w ts t => by rw [run_min_int2, hR]; congr 2; split <;> split <;> omega
  clear hn hR
  go_enter Try.func9, Try.ntmps9
  go_wp2
  go_ret
  refine ⟨rfl, ⟨by simp, fun h => h, fun _ h => h.elim, fun x hx => by simp at hx, Nat.zero_le _, 46, none, 0, heap_alloc_new w _, Sl.nil _ _ _, fun k hk => absurd hk.1 (by omega)⟩, (Kept.refl _ _).alloc _⟩
set_option maxHeartbeats 400000 in
theorem clone_SI (ao : Option Addr) (n cap : Nat) (l : List T3) (w : World) (hs : Sl w 49 3 ao n cap (cellsOf l)) (h1 : ∀ x ∈ l, x.q.oneCell' = true ∧ x.a.oneCell' = true) (hn : n ≤ 1000000) :
    Calls Try.prog 21 #[.slice ao n cap] w fun e w' => ∃ ao' cap', e = .returned (.slice ao' n cap') ∧ Sl w' 49 3 ao' n cap' (cellsOf l) ∧ Kept (fun _ => False) w w' ∧ ∀ k, ownedBy ao' cap' k → w.heap.size ≤ k := by
  rcases ao with _ | a
  · obtain ⟨rfl, rfl, hx⟩ := hs.none
    rw [hx]
    clear hs hx
    have hnil := fun w => Lib.run_eql_slice_nil (P := Try.prog) w 44 49 none 0 0 0 0 Try.underlying44
    go_enter Try.func21, Try.ntmps21
    go_wp2
    go_ret
    exact ⟨none, 0, rfl, Sl.nil _ _ _, Kept.refl _ _, fun k hk => absurd hk.1 (by omega)⟩
  · obtain ⟨i0, hi, hz0, hz1, hz2⟩ := info_parts infot_SI
    have HI := Lib.hid hi
    have HZ0 := Lib.hid hz0
    have HZ1 := Lib.hid hz1
    have HZ2 := Lib.hid hz2
    have HS := Lib.hid hs
    have H1 := Lib.hid h1
    clear hi hz0 hz1 hz2 hs h1
    have hnil := fun w => Lib.run_eql_slice_nil (P := Try.prog) w 44 49 (some a) n cap 0 0 Try.underlying44
    go_enter Try.func21, Try.ntmps21
    go_wp2_with (at_builtin; go_must (refine wpList_append_sl _ rfl _ _ 44 44 rfl 49 i0 (.agg #[.int .i64 0, .string ⟨#[]⟩, .int .i64 0]) 3 32 Try.underlying44 HI.out HZ0.out HZ1.out HZ2.out rfl (some ⟨w.heap.size, 0, none⟩) 0 0 [] (Sl.empty _ _ _ _) rfl _ rfl n (cellsOf l) ((HS.out.kept ((Kept.refl (fun _ => False) w).alloc _) (fun _ _ h => h)).src Try.underlying44 (cellsOf_one l H1.out)) (by simp only [maxLen]; omega) (by omega) ?_); intro ao' cap' w5 hSl hKe hown; simp only [Nat.zero_add, List.nil_append] at hSl; have HSL := Lib.hid hSl; have HKE := Lib.hid hKe; have HOW := Lib.hid hown; clear hSl hKe hown)
    go_ret
    have kk : Kept (fun _ => False) w w5 := ((Kept.refl _ w).alloc _).trans (HKE.out.mono (fun k _ h => absurd h.1 (by omega)))
    refine ⟨ao', cap', rfl, HSL.out, kk, fun k hk => ?_⟩
    rcases HOW.out k hk with h | h
    · exact absurd h.1 (by omega)
    · rw [h]; simp
set_option maxHeartbeats 400000 in
theorem seen_new_SI (w : World) (b n : Nat) (l : List T3) (o : Nat → Prop) (h : Tab 49 w b n l o) (hn : n ≤ 1000) (r : Int) (q : Value) (hr : ∀ x ∈ l, x.r ≠ r) :
    Calls Try.prog 11 #[.pointer (some ⟨b, 0, none⟩), .int .i64 r, q] w fun e w' => e = .returned (.tuple #[(.int .i64 0), .int .i64 0]) ∧ Below w.heap.size w w' := by
  have HP := Lib.hid (posI_none hr)
  have H := Lib.hid h
  clear h hr
  go_enter Try.func11, Try.ntmps11
  go_wp2_with fail
  refine (find_SI w b n l o H.out hn r).mono ?_
  rw [HP.out]
  rintro e w1 ⟨rfl, b1⟩
  have B1 := Lib.hid b1
  clear b1
  go_wp2
  go_ret2
  exact ⟨rfl, B1.out⟩
set_option maxHeartbeats 400000 in
theorem seen_same_SI (w : World) (b n : Nat) (l : List T3) (o : Nat → Prop) (h : Tab 49 w b n l o) (hn : n ≤ 1000) (r : Int) (xq : ByteArray) (k : Nat) (a : Value) (hx : l[k]? = some ⟨r, .string xq, a⟩) (hb : ∀ j y, j < k → l[j]? = some y → y.r ≠ r) :
    Calls Try.prog 11 #[.pointer (some ⟨b, 0, none⟩), .int .i64 r, .string xq] w fun e w' => e = .returned (.tuple #[a, .int .i64 1]) ∧ Below w.heap.size w w' := by
  have hpos : posI l r = k := posI_at hx rfl hb
  have HP := Lib.hid hpos
  clear hpos
  obtain ⟨T, ao, cap, hbb, hs, _⟩ := h.hb
  have hk := (List.getElem?_eq_some_iff.1 hx).1
  obtain ⟨g, off, rfl, hg, h0, h1, h2⟩ := hs.cell3 hk
  obtain ⟨e0, e1, e2⟩ := cellsOf_at l k _ hx
  rw [e0] at h0
  rw [e1] at h1
  rw [e2] at h2
  dsimp only at h0 h1 h2
  have hbc : w.cell? ⟨b, 1, none⟩ = some (.slice (some ⟨g, off, none⟩) l.length cap) := by simp [World.cell?, hbb]
  have hlt := h.lt
  have hll := h.len
  have H := Lib.hid h
  have C0 := Lib.hid h0
  have C1 := Lib.hid h1
  have C2 := Lib.hid h2
  have CB := Lib.hid hbc
  clear h hb hx hbb hs h0 h1 h2 e0 e1 e2 hbc
  generalize hL : l.length = L at *
  clear hL
  go_enter Try.func11, Try.ntmps11
  go_wp2_with fail
  refine (find_SI w b n l o H.out hn r).mono ?_
  rw [HP.out]
  rintro e w1 ⟨rfl, b1⟩
  have c0 := (b1.cell (p := ⟨g, off + k * 3, none⟩) hg).trans C0.out
  have c1 := (b1.cell (p := ⟨g, off + k * 3 + 1, none⟩) hg).trans C1.out
  have c2 := (b1.cell (p := ⟨g, off + k * 3 + 2, none⟩) hg).trans C2.out
  have cb := (b1.cell (p := ⟨b, 1, none⟩) hlt).trans CB.out
  have B1 := Lib.hid b1
  clear b1
  go_wp2
  go_ret2
  exact ⟨rfl, B1.out⟩
set_option maxHeartbeats 400000 in
theorem seen_other_SI (w : World) (b n : Nat) (l : List T3) (o : Nat → Prop) (h : Tab 49 w b n l o) (hn : n ≤ 1000) (r : Int) (q xq : ByteArray) (k : Nat) (a : Value) (hq : xq ≠ q) (hx : l[k]? = some ⟨r, .string xq, a⟩) (hb : ∀ j y, j < k → l[j]? = some y → y.r ≠ r) :
    Calls Try.prog 11 #[.pointer (some ⟨b, 0, none⟩), .int .i64 r, .string q] w fun e w' => e = .returned (.tuple #[(.int .i64 0), .int .i64 2]) ∧ Below w.heap.size w w' := by
  have hpos : posI l r = k := posI_at hx rfl hb
  have HP := Lib.hid hpos
  clear hpos
  obtain ⟨T, ao, cap, hbb, hs, _⟩ := h.hb
  have hk := (List.getElem?_eq_some_iff.1 hx).1
  obtain ⟨g, off, rfl, hg, h0, h1, h2⟩ := hs.cell3 hk
  obtain ⟨e0, e1, e2⟩ := cellsOf_at l k _ hx
  rw [e0] at h0
  rw [e1] at h1
  rw [e2] at h2
  dsimp only at h0 h1 h2
  have hbc : w.cell? ⟨b, 1, none⟩ = some (.slice (some ⟨g, off, none⟩) l.length cap) := by simp [World.cell?, hbb]
  have hlt := h.lt
  have hll := h.len
  have H := Lib.hid h
  have C0 := Lib.hid h0
  have C1 := Lib.hid h1
  have C2 := Lib.hid h2
  have CB := Lib.hid hbc
  clear h hb hx hbb hs h0 h1 h2 e0 e1 e2 hbc
  generalize hL : l.length = L at *
  clear hL
  have hq1 : (xq.toList == q.toList) = false := by rw [← beq_toListBytes]; exact Bool.eq_false_iff.2 (fun h => hq ((MapKept.bytes_beq _ _).1 h))
  go_enter Try.func11, Try.ntmps11
  go_wp2_with fail
  refine (find_SI w b n l o H.out hn r).mono ?_
  rw [HP.out]
  rintro e w1 ⟨rfl, b1⟩
  have c0 := (b1.cell (p := ⟨g, off + k * 3, none⟩) hg).trans C0.out
  have c1 := (b1.cell (p := ⟨g, off + k * 3 + 1, none⟩) hg).trans C1.out
  have c2 := (b1.cell (p := ⟨g, off + k * 3 + 2, none⟩) hg).trans C2.out
  have cb := (b1.cell (p := ⟨b, 1, none⟩) hlt).trans CB.out
  have B1 := Lib.hid b1
  clear b1
  go_wp2
  go_ret2
  exact ⟨rfl, B1.out⟩
set_option maxHeartbeats 400000 in
theorem tell_low_SI (w : World) (b : Nat) (r : Int) (q a : Value) (hr : r < 1) :
    Calls Try.prog 10 #[.pointer (some ⟨b, 0, none⟩), .int .i64 r, q, a] w fun e w' => e = .returned (.bool false) ∧ w' = w := by
  have hd : decide (r < 1) = true := by simpa using hr
  go_enter Try.func10, Try.ntmps10
  go_wp2
  go_ret
  exact ⟨rfl, rfl⟩
set_option maxHeartbeats 400000 in
theorem tell_there_SI (w : World) (b n : Nat) (l : List T3) (o : Nat → Prop) (h : Tab 49 w b n l o) (hn : n ≤ 1000) (r : Int) (q a : Value) (hr : 1 ≤ r) (hx : ∃ x ∈ l, x.r = r) :
    Calls Try.prog 10 #[.pointer (some ⟨b, 0, none⟩), .int .i64 r, q, a] w fun e w' => e = .returned (.bool false) ∧ Below w.heap.size w w' := by
  have hd : decide (r < 1) = false := by simpa using hr
  have hp : ∃ k : Nat, posI l r = k := by
    refine ⟨posOf l r, ?_⟩
    rw [posI, if_pos]
    unfold posOf
    rw [List.findIdx_lt_length]
    obtain ⟨x, h1, h2⟩ := hx
    exact ⟨x, h1, by simpa using h2⟩
  obtain ⟨k, hk⟩ := hp
  have HP := Lib.hid hk
  have H := Lib.hid h
  clear h hx hk
  go_enter Try.func10, Try.ntmps10
  go_wp2_with fail
  refine (find_SI w b n l o H.out hn r).mono ?_
  rw [HP.out]
  rintro e w1 ⟨rfl, b1⟩
  have B1 := Lib.hid b1
  clear b1
  go_wp2
  go_ret
  exact ⟨rfl, B1.out⟩
theorem slice_SI (w : World) (ao : Option Addr) (n cap k : Nat) (hn : k ≤ n) : (Instr.slice 44 (.slice ao n cap) (some (.int .i64 k)) none none).run Try.prog w = .ok (.slice (adv ao cap k 3) (n - k) (cap - k)) w := by
  obtain ⟨i0, hi, hz0, hz1, hz2⟩ := info_parts infot_SI
  have he : Try.prog.elem 44 = 49 := by simp [Program.elem, Try.underlying44]
  exact run_cut (P := Try.prog) 44 3 (by rw [he]; exact Try.underlying44) (fun w => by rw [he]; simp [sizeOf, typeInfo, hi, hz1]) ao n cap k hn w
set_option maxHeartbeats 1000000 in
theorem tell_ok_SI (w : World) (b n : Nat) (l : List T3) (o : Nat → Prop) (h : Tab 49 w b n l o) (hn : n ≤ 1000) (r : Int) (q : ByteArray) (a : Int) (hr : 1 ≤ r) (hx : ∀ x ∈ l, x.r ≠ r) :
    Calls Try.prog 10 #[.pointer (some ⟨b, 0, none⟩), .int .i64 r, .string q, .int .i64 a] w fun e w' => e = .returned (.bool true) ∧ ∃ o', Tab 49 w' b n ((l ++ [T3.mk r (.string q) (.int .i64 a)]).drop (l.length + 1 - n)) o' ∧ Kept (fun k => k = b ∨ o k) w w' ∧ ∀ k, o' k → w.heap.size ≤ k := by
  have hd : decide (r < 1) = false := by simpa using hr
  have HP := Lib.hid (posI_none hx)
  have H := Lib.hid h
  obtain ⟨T, ao, cap, hbb, hs, ho⟩ := h.hb
  have HBB := Lib.hid hbb
  have HS := Lib.hid hs
  have HO := Lib.hid ho
  have hlt := h.lt
  have hll := h.len
  obtain ⟨i0, hi, hz0, hz1, hz2⟩ := info_parts infot_SI
  have HI := Lib.hid hi
  have HZ0 := Lib.hid hz0
  have HZ1 := Lib.hid hz1
  have HZ2 := Lib.hid hz2
  clear hi hz0 hz1 hz2 h hx hbb hs ho
  obtain ⟨L, hL⟩ : ∃ L, L = l.length := ⟨_, rfl⟩
  rw [← hL] at HBB HS hll ⊢
  have HL := Lib.hid hL
  clear hL
  go_enter Try.func10, Try.ntmps10
  go_wp2_with fail
  refine (find_SI w b n l o H.out hn r).mono ?_
  rw [HP.out]
  rintro e w1 ⟨rfl, b1⟩
  have cb : w1.cell? ⟨b, 1, none⟩ = some (.slice ao L cap) := (b1.cell (p := ⟨b, 1, none⟩) hlt).trans (by simp [World.cell?, HBB.out])
  have B1 := Lib.hid b1
  clear b1
  have HSA : Hid (Sl (w1.alloc (.cells #[.int .i64 r, .string q, .int .i64 a] 49)) 49 3 ao L cap (cellsOf l)) := Lib.hid ((HS.out.kept (Kept.of_below (S := fun _ => False) B1.out (fun k h1 h2 => by omega)) (fun _ _ h => h)).kept ((Kept.refl (fun _ => False) w1).alloc _) (fun _ _ h => h))
  go_wp2_with (at_builtin; go_must (refine wpList_append_sl _ rfl _ _ 44 44 rfl 49 i0 (.agg #[.int .i64 0, .string ⟨#[]⟩, .int .i64 0]) 3 32 Try.underlying44 HI.out HZ0.out HZ1.out HZ2.out rfl ao L cap _ HSA.out rfl _ rfl 1 [.int .i64 r, .string q, .int .i64 a] (srcNew w1 Try.underlying44 [.int .i64 r, .string q, .int .i64 a] 1 3 rfl (by simp [Value.oneCell']) 49) (by simp only [maxLen]; omega) (by omega) ?_); intro ao' cap' w5 hSl hKe hown; have hb5 : w5.heap[b]? = some (.cells #[.int .i64 n, .slice ao L cap] T (0, 0)) := tell_b hKe B1.out hlt (fun h => H.out.ob (HO.out b h)) HBB.out; have hc5 : w5.cell? ⟨b, 1, none⟩ = some (.slice ao L cap) := cell_of_block hb5 1 _ rfl; have hf5 : w5.frozen? ⟨b, 1, none⟩ = false := free_of_block hb5 1; have HB5 := Lib.hid hb5; have HSL := Lib.hid hSl; have HKE := Lib.hid hKe; have HOW := Lib.hid hown; clear hSl hKe hown hb5)
  obtain ⟨w6, hw6⟩ : ∃ w6, w6 = w5.setCell ⟨b, 1, none⟩ (.slice ao' (L + 1) cap') := ⟨_, rfl⟩
  obtain ⟨hb6, k6, s6⟩ := tell_6 hw6 HB5.out HSL.out HKE.out HOW.out B1.out hlt (fun h => H.out.ob (HO.out b h)) (fun k hk => HO.out k hk)
  have c0 : w6.cell? ⟨b, 0, none⟩ = some (.int .i64 n) := cell_of_block hb6 0 _ rfl
  have c1 : w6.cell? ⟨b, 1, none⟩ = some (.slice ao' (L + 1) cap') := cell_of_block hb6 1 _ rfl
  have f1 : w6.frozen? ⟨b, 1, none⟩ = false := free_of_block hb6 1
  rw [← hw6]
  have HB6 := Lib.hid hb6
  have K6 := Lib.hid k6
  have S6 := Lib.hid s6
  obtain ⟨k, hk⟩ : ∃ k, k = L + 1 - n := ⟨_, rfl⟩
  have hmax : ∀ (w : World) ts t, (Builtin.max_ ts t #[.int .i64 0, .int .i64 ((L : Int) + 1 - n)]).run Try.prog w = .ok (.int .i64 k) w := fun w ts t => by rw [run_max_int2, hk]; congr 2; split <;> omega
  have hcut := fun w => slice_SI w ao' (L + 1) cap' k (by omega)
  have hkL : k ≤ L + 1 := by omega
  have hL1 : L + 1 - k ≤ n := by omega
  have S7 : Hid (Sl w6.drew 49 3 (adv ao' cap' k 3) (L + 1 - k) (cap' - k) (cellsOf ((l ++ [T3.mk r (.string q) (.int .i64 a)]).drop k))) := Lib.hid (by
    have h := s6.cut hkL
    rw [show cellsOf l ++ [.int .i64 r, .string q, .int .i64 a] = cellsOf (l ++ [T3.mk r (.string q) (.int .i64 a)]) from by rw [cellsOf_append]; rfl, cellsOf_drop] at h
    exact h.drew)
  have ONE7 : Hid (∀ x ∈ (l ++ [T3.mk r (.string q) (.int .i64 a)]).drop k, x.q.oneCell' = true ∧ x.a.oneCell' = true) := Lib.hid (fun x hx => by
    rcases List.mem_append.1 (List.mem_of_mem_drop hx) with h | h
    · exact H.out.one x h
    · simp only [List.mem_singleton] at h; subst h; exact ⟨rfl, rfl⟩)
  have HK := Lib.hid hk
  clear hw6 hb6 k6 s6 hk hc5 hf5 cb
  have hk0 : (0 : Int) ≤ (k : Int) := Int.natCast_nonneg _
  have hk1 : (k : Int) ≤ (L : Int) + 1 := by omega
  have hk2 : (k : Int) ≤ ((L + 1 : Nat) : Int) := by omega
  have hw1 : IntKind.i64.wrap ((L : Int) + 1 - n) = (L : Int) + 1 - n := IntWalk.i64_in _ (by omega)
  have hw2 : IntKind.i64.wrap (((L + 1 : Nat) : Int) - n) = (L : Int) + 1 - n := by rw [IntWalk.i64_in _ (by omega)]; omega
  have hblt : b < w6.heap.size := Nat.lt_of_lt_of_le hlt K6.out.size
  go_region_law
    ((go_simp; go_at_call 21; refine (clone_SI (adv ao' cap' k 3) (L + 1 - k) (cap' - k) ((l ++ [T3.mk r (.string q) (.int .i64 a)]).drop k) _ (by exact S7.out) (by exact ONE7.out) (by omega)).mono ?_; rintro e w7 ⟨ao2, cap2, rfl, hs7, k7, o7⟩; have c70 : w7.cell? ⟨b, 0, none⟩ = some (.int .i64 n) := cell_of_block ((k7.block b hblt (fun h => h)).trans HB6.out) 0 _ rfl; have c71 : w7.cell? ⟨b, 1, none⟩ = some (.slice ao' (L + 1) cap') := cell_of_block ((k7.block b hblt (fun h => h)).trans HB6.out) 1 _ rfl; have f71 : w7.frozen? ⟨b, 1, none⟩ = false := free_of_block ((k7.block b hblt (fun h => h)).trans HB6.out) 1; have HS7 := Lib.hid hs7; have K7 := Lib.hid k7; have O7 := Lib.hid o7; clear hs7 k7 o7))
  all_goals
    go_wp2
    go_ret
    rw [show L + 1 - n = k from HK.out.symm]
    exact tell_end HB6.out K6.out HS7.out K7.out O7.out ONE7.out (by rw [List.length_drop]; simp; have := HL.out; omega) hlt (by have := HL.out; simp [List.length_drop]; omega)
theorem infot_IS : (Try.prog.info? 55).map (fun i => (i.zero, i.size, i.bytes)) = some (some (.agg #[.int .i64 0, .int .i64 0, .string ⟨#[]⟩]), 3, 32) := by kernel_rfl
set_option maxHeartbeats 400000 in
theorem clos_IS (x : T3) (r : Int) (c : Nat) (w : World) (hc : w.cell? ⟨c, 0, none⟩ = some (.int .i64 r)) :
    Calls Try.prog 29 #[.agg #[.int .i64 x.r, x.q, x.a], .pointer (some ⟨c, 0, none⟩)] w fun e w' => e = .returned (.bool (x.r == r)) ∧ Below w.heap.size w w' := by
  obtain ⟨xr, xq, xa⟩ := x
  have hlt : c < w.heap.size := cell_lt hc
  go_enter Try.func29, Try.ntmps29
  go_wp2
  go_ret
  exact ⟨rfl, (Below.refl _ _).alloc (Nat.le_refl _) _⟩
set_option maxHeartbeats 400000 in
theorem idx_IS (ao : Option Addr) (cap : Nat) (l : List T3) (r : Int) (c : Nat) (w : World) (hc : w.cell? ⟨c, 0, none⟩ = some (.int .i64 r)) (hs : Sl w 55 3 ao l.length cap (cellsOf l)) (hl : l.length ≤ 1000000) :
    Calls Try.prog 28 #[.slice ao l.length cap, .func (.func 29) #[] #[.pointer (some ⟨c, 0, none⟩)]] w fun e w' => e = .returned (.int .i64 (posI l r)) ∧ Below w.heap.size w w' := by
  have hlt := cell_lt hc
  have HC := Lib.hid hc
  have HS := Lib.hid hs
  obtain ⟨n, hn⟩ : ∃ n, n = l.length := ⟨_, rfl⟩
  rw [← hn] at hl ⊢
  have HN := Lib.hid hn
  clear hc hs hn
  go_enter Try.func28, Try.ntmps28
  go_wp2
  go_loopw [8] (fun i wr => ∃ k : Nat, k ≤ n ∧ i = .int .i64 k ∧ Hid (∀ j y, j < k → l[j]? = some y → y.r ≠ r) ∧ Hid (Below w.heap.size w wr)) (fun i _ => n - (intOf i).toNat)
  case atStart => exact ⟨0, Nat.zero_le _, rfl, Lib.hid (fun j _ h => absurd h (by omega)), Lib.hid (Below.refl _ _)⟩
  case round =>
    obtain ⟨k, hk, rfl, hno, hB⟩ := hrel
    by_cases hlk : k < n
    · have hkl : k < l.length := by have := HN.out; omega
      obtain ⟨x, hx⟩ : ∃ x, l[k]? = some x := ⟨l[k], by simp [hkl]⟩
      obtain ⟨g, off, rfl, hg, h0, h1, h2⟩ := HS.out.cell3 hkl
      obtain ⟨e0, e1, e2⟩ := cellsOf_at l k x hx
      have c0 : wr.cell? ⟨g, off + k * 3, none⟩ = some (.int .i64 x.r) := (hB.out.cell (p := ⟨g, off + k * 3, none⟩) hg).trans (h0.trans e0)
      have c1 : wr.cell? ⟨g, off + k * 3 + 1, none⟩ = some x.q := (hB.out.cell (p := ⟨g, off + k * 3 + 1, none⟩) hg).trans (h1.trans e1)
      have c2 : wr.cell? ⟨g, off + k * 3 + 2, none⟩ = some x.a := (hB.out.cell (p := ⟨g, off + k * 3 + 2, none⟩) hg).trans (h2.trans e2)
      have hcc := (hB.out.cell (p := ⟨c, 0, none⟩) hlt).trans HC.out
      have HX := Lib.hid hx
      have HCC := Lib.hid hcc
      clear h0 h1 h2 e0 e1 e2 hx hcc hkl
      go_wp2_with fail
      refine (clos_IS x r c _ HCC.out).mono ?_
      rintro e w3 ⟨rfl, b3⟩
      have B3 := Lib.hid (hB.out.trans (b3.mono hB.out.size))
      clear b3 c0 c1 c2 HCC
      rcases hr : (x.r == r) with _ | _
      · have HR := Lib.hid hr
        clear hr
        go_wp2
        go_roundw
        case rel => exact ⟨k + 1, by omega, by go_num, Lib.hid (fun j y hj hy => by
          rcases Nat.lt_succ_iff_lt_or_eq.1 hj with h | h
          · exact hno.out j y h hy
          · subst h; rw [HX.out] at hy; cases hy; have := HR.out; simpa using this), B3⟩
        case measure => simp [intOf]; omega
      · have hp := posI_at HX.out (by simpa using hr) hno.out
        have HP := Lib.hid hp
        clear hr hp
        go_wp2
        go_ret
        exact ⟨by rw [HP.out]; rfl, B3.out⟩
    · have hp : posI l r = -1 := posI_none (fun x hx => by
        obtain ⟨j, hj, rfl⟩ := List.getElem_of_mem hx
        exact hno.out j _ (by have := HN.out; omega) (by simp))
      have HP := Lib.hid hp
      clear hp
      go_wp2
      go_ret
      exact ⟨by rw [HP.out]; rfl, hB.out⟩
set_option maxHeartbeats 400000 in
theorem find_IS (w : World) (b n : Nat) (l : List T3) (o : Nat → Prop) (h : Tab 55 w b n l o) (hn : n ≤ 1000) (r : Int) :
    Calls Try.prog 22 #[.pointer (some ⟨b, 0, none⟩), .int .i64 r] w fun e w' => e = .returned (.int .i64 (posI l r)) ∧ Below w.heap.size w w' := by
  obtain ⟨T, ao, cap, hb, hs, _⟩ := h.hb
  have c1 : (w.alloc (.cells #[.int .i64 r] 2)).cell? ⟨b, 1, none⟩ = some (.slice ao l.length cap) := by
    rw [World.cell?_alloc_past _ _ _ h.lt]; simp [World.cell?, hb]
  have hll := h.len
  have HL := Lib.hid (show l.length ≤ 1000000 by omega)
  have HS := Lib.hid (hs.kept ((Kept.refl (fun _ => False) w).alloc (.cells #[.int .i64 r] 2)) (fun _ _ h => h))
  clear h hs hb hn hll
  go_enter Try.func22, Try.ntmps22
  go_wp2_with fail
  refine (idx_IS ao cap l r w.heap.size _ (by simp) HS.out HL.out).mono ?_
  rintro e w3 ⟨rfl, b3⟩
  have B3 := Lib.hid (((Below.refl w.heap.size w).alloc (Nat.le_refl _) _).trans (b3.mono (by simp)))
  clear b3
  go_wp2
  go_ret
  exact ⟨rfl, B3.out⟩
set_option maxHeartbeats 400000 in
theorem len_IS (w : World) (b n : Nat) (l : List T3) (o : Nat → Prop) (h : Tab 55 w b n l o) :
    Calls Try.prog 16 #[.pointer (some ⟨b, 0, none⟩)] w fun e w' => e = .returned (.int .i64 l.length) ∧ w' = w := by
  obtain ⟨T, ao, cap, hb, hs, _⟩ := h.hb
  have c1 : w.cell? ⟨b, 1, none⟩ = some (.slice ao l.length cap) := by simp [World.cell?, hb]
  clear h hs hb
  go_enter Try.func16, Try.ntmps16
  go_wp2
  go_ret
  exact ⟨rfl, rfl⟩
set_option maxHeartbeats 400000 in
theorem new_IS (r : Int) (n : Nat) (hn : n = max 1 (min r.toNat 100)) (w : World) :
    Calls Try.prog 13 #[.int .i64 r] w fun e w' => e = .returned (.pointer (some ⟨w.heap.size, 0, none⟩)) ∧ Tab 55 w' w.heap.size n [] (fun _ => False) ∧ Kept (fun _ => False) w w' := by
  obtain ⟨R, hR⟩ : ∃ R : Int, R = (if r < 1 then 1 else r) := ⟨_, rfl⟩
  have hmax : ∀ (w : World) ts t, (Builtin.max_ ts t #[.int .i64 r, .int .i64 1]).run Try.prog w = .ok (.int .i64 R) w := fun w ts t => by rw [run_max_int2, hR]
  have hmin : ∀ (w : World) ts t, (Builtin.min_ ts t #[.int .i64 R, .int .i64 100]).run Try.prog w = .ok (.int .i64 n) w := fun w ts t => by rw [run_min_int2, hR]; congr 2; split <;> split <;> omega
  clear hn hR
  go_enter Try.func13, Try.ntmps13
  go_wp2
  go_ret
  refine ⟨rfl, ⟨by simp, fun h => h, fun _ h => h.elim, fun x hx => by simp at hx, Nat.zero_le _, 53, none, 0, heap_alloc_new w _, Sl.nil _ _ _, fun k hk => absurd hk.1 (by omega)⟩, (Kept.refl _ _).alloc _⟩
set_option maxHeartbeats 400000 in
theorem clone_IS (ao : Option Addr) (n cap : Nat) (l : List T3) (w : World) (hs : Sl w 55 3 ao n cap (cellsOf l)) (h1 : ∀ x ∈ l, x.q.oneCell' = true ∧ x.a.oneCell' = true) (hn : n ≤ 1000000) :
    Calls Try.prog 23 #[.slice ao n cap] w fun e w' => ∃ ao' cap', e = .returned (.slice ao' n cap') ∧ Sl w' 55 3 ao' n cap' (cellsOf l) ∧ Kept (fun _ => False) w w' ∧ ∀ k, ownedBy ao' cap' k → w.heap.size ≤ k := by
  rcases ao with _ | a
  · obtain ⟨rfl, rfl, hx⟩ := hs.none
    rw [hx]
    clear hs hx
    have hnil := fun w => Lib.run_eql_slice_nil (P := Try.prog) w 51 55 none 0 0 0 0 Try.underlying51
    go_enter Try.func23, Try.ntmps23
    go_wp2
    go_ret
    exact ⟨none, 0, rfl, Sl.nil _ _ _, Kept.refl _ _, fun k hk => absurd hk.1 (by omega)⟩
  · obtain ⟨i0, hi, hz0, hz1, hz2⟩ := info_parts infot_IS
    have HI := Lib.hid hi
    have HZ0 := Lib.hid hz0
    have HZ1 := Lib.hid hz1
    have HZ2 := Lib.hid hz2
    have HS := Lib.hid hs
    have H1 := Lib.hid h1
    clear hi hz0 hz1 hz2 hs h1
    have hnil := fun w => Lib.run_eql_slice_nil (P := Try.prog) w 51 55 (some a) n cap 0 0 Try.underlying51
    go_enter Try.func23, Try.ntmps23
    go_wp2_with (at_builtin; go_must (refine wpList_append_sl _ rfl _ _ 51 51 rfl 55 i0 (.agg #[.int .i64 0, .int .i64 0, .string ⟨#[]⟩]) 3 32 Try.underlying51 HI.out HZ0.out HZ1.out HZ2.out rfl (some ⟨w.heap.size, 0, none⟩) 0 0 [] (Sl.empty _ _ _ _) rfl _ rfl n (cellsOf l) ((HS.out.kept ((Kept.refl (fun _ => False) w).alloc _) (fun _ _ h => h)).src Try.underlying51 (cellsOf_one l H1.out)) (by simp only [maxLen]; omega) (by omega) ?_); intro ao' cap' w5 hSl hKe hown; simp only [Nat.zero_add, List.nil_append] at hSl; have HSL := Lib.hid hSl; have HKE := Lib.hid hKe; have HOW := Lib.hid hown; clear hSl hKe hown)
    go_ret
    have kk : Kept (fun _ => False) w w5 := ((Kept.refl _ w).alloc _).trans (HKE.out.mono (fun k _ h => absurd h.1 (by omega)))
    refine ⟨ao', cap', rfl, HSL.out, kk, fun k hk => ?_⟩
    rcases HOW.out k hk with h | h
    · exact absurd h.1 (by omega)
    · rw [h]; simp
set_option maxHeartbeats 400000 in
theorem seen_new_IS (w : World) (b n : Nat) (l : List T3) (o : Nat → Prop) (h : Tab 55 w b n l o) (hn : n ≤ 1000) (r : Int) (q : Value) (hr : ∀ x ∈ l, x.r ≠ r) :
    Calls Try.prog 15 #[.pointer (some ⟨b, 0, none⟩), .int .i64 r, q] w fun e w' => e = .returned (.tuple #[(.string ⟨#[]⟩), .int .i64 0]) ∧ Below w.heap.size w w' := by
  have HP := Lib.hid (posI_none hr)
  have H := Lib.hid h
  clear h hr
  go_enter Try.func15, Try.ntmps15
  go_wp2_with fail
  refine (find_IS w b n l o H.out hn r).mono ?_
  rw [HP.out]
  rintro e w1 ⟨rfl, b1⟩
  have B1 := Lib.hid b1
  clear b1
  go_wp2
  go_ret2
  exact ⟨rfl, B1.out⟩
set_option maxHeartbeats 400000 in
theorem seen_same_IS (w : World) (b n : Nat) (l : List T3) (o : Nat → Prop) (h : Tab 55 w b n l o) (hn : n ≤ 1000) (r : Int) (xq : Int) (k : Nat) (a : Value) (hx : l[k]? = some ⟨r, .int .i64 xq, a⟩) (hb : ∀ j y, j < k → l[j]? = some y → y.r ≠ r) :
    Calls Try.prog 15 #[.pointer (some ⟨b, 0, none⟩), .int .i64 r, .int .i64 xq] w fun e w' => e = .returned (.tuple #[a, .int .i64 1]) ∧ Below w.heap.size w w' := by
  have hpos : posI l r = k := posI_at hx rfl hb
  have HP := Lib.hid hpos
  clear hpos
  obtain ⟨T, ao, cap, hbb, hs, _⟩ := h.hb
  have hk := (List.getElem?_eq_some_iff.1 hx).1
  obtain ⟨g, off, rfl, hg, h0, h1, h2⟩ := hs.cell3 hk
  obtain ⟨e0, e1, e2⟩ := cellsOf_at l k _ hx
  rw [e0] at h0
  rw [e1] at h1
  rw [e2] at h2
  dsimp only at h0 h1 h2
  have hbc : w.cell? ⟨b, 1, none⟩ = some (.slice (some ⟨g, off, none⟩) l.length cap) := by simp [World.cell?, hbb]
  have hlt := h.lt
  have hll := h.len
  have H := Lib.hid h
  have C0 := Lib.hid h0
  have C1 := Lib.hid h1
  have C2 := Lib.hid h2
  have CB := Lib.hid hbc
  clear h hb hx hbb hs h0 h1 h2 e0 e1 e2 hbc
  generalize hL : l.length = L at *
  clear hL
  go_enter Try.func15, Try.ntmps15
  go_wp2_with fail
  refine (find_IS w b n l o H.out hn r).mono ?_
  rw [HP.out]
  rintro e w1 ⟨rfl, b1⟩
  have c0 := (b1.cell (p := ⟨g, off + k * 3, none⟩) hg).trans C0.out
  have c1 := (b1.cell (p := ⟨g, off + k * 3 + 1, none⟩) hg).trans C1.out
  have c2 := (b1.cell (p := ⟨g, off + k * 3 + 2, none⟩) hg).trans C2.out
  have cb := (b1.cell (p := ⟨b, 1, none⟩) hlt).trans CB.out
  have B1 := Lib.hid b1
  clear b1
  go_wp2
  go_ret2
  exact ⟨rfl, B1.out⟩
set_option maxHeartbeats 400000 in
theorem seen_other_IS (w : World) (b n : Nat) (l : List T3) (o : Nat → Prop) (h : Tab 55 w b n l o) (hn : n ≤ 1000) (r : Int) (q xq : Int) (k : Nat) (a : Value) (hq : xq ≠ q) (hx : l[k]? = some ⟨r, .int .i64 xq, a⟩) (hb : ∀ j y, j < k → l[j]? = some y → y.r ≠ r) :
    Calls Try.prog 15 #[.pointer (some ⟨b, 0, none⟩), .int .i64 r, .int .i64 q] w fun e w' => e = .returned (.tuple #[(.string ⟨#[]⟩), .int .i64 2]) ∧ Below w.heap.size w w' := by
  have hpos : posI l r = k := posI_at hx rfl hb
  have HP := Lib.hid hpos
  clear hpos
  obtain ⟨T, ao, cap, hbb, hs, _⟩ := h.hb
  have hk := (List.getElem?_eq_some_iff.1 hx).1
  obtain ⟨g, off, rfl, hg, h0, h1, h2⟩ := hs.cell3 hk
  obtain ⟨e0, e1, e2⟩ := cellsOf_at l k _ hx
  rw [e0] at h0
  rw [e1] at h1
  rw [e2] at h2
  dsimp only at h0 h1 h2
  have hbc : w.cell? ⟨b, 1, none⟩ = some (.slice (some ⟨g, off, none⟩) l.length cap) := by simp [World.cell?, hbb]
  have hlt := h.lt
  have hll := h.len
  have H := Lib.hid h
  have C0 := Lib.hid h0
  have C1 := Lib.hid h1
  have C2 := Lib.hid h2
  have CB := Lib.hid hbc
  clear h hb hx hbb hs h0 h1 h2 e0 e1 e2 hbc
  generalize hL : l.length = L at *
  clear hL
  have hq1 : (xq == q) = false := by simpa using hq
  go_enter Try.func15, Try.ntmps15
  go_wp2_with fail
  refine (find_IS w b n l o H.out hn r).mono ?_
  rw [HP.out]
  rintro e w1 ⟨rfl, b1⟩
  have c0 := (b1.cell (p := ⟨g, off + k * 3, none⟩) hg).trans C0.out
  have c1 := (b1.cell (p := ⟨g, off + k * 3 + 1, none⟩) hg).trans C1.out
  have c2 := (b1.cell (p := ⟨g, off + k * 3 + 2, none⟩) hg).trans C2.out
  have cb := (b1.cell (p := ⟨b, 1, none⟩) hlt).trans CB.out
  have B1 := Lib.hid b1
  clear b1
  go_wp2
  go_ret2
  exact ⟨rfl, B1.out⟩
set_option maxHeartbeats 400000 in
theorem tell_low_IS (w : World) (b : Nat) (r : Int) (q a : Value) (hr : r < 1) :
    Calls Try.prog 14 #[.pointer (some ⟨b, 0, none⟩), .int .i64 r, q, a] w fun e w' => e = .returned (.bool false) ∧ w' = w := by
  have hd : decide (r < 1) = true := by simpa using hr
  go_enter Try.func14, Try.ntmps14
  go_wp2
  go_ret
  exact ⟨rfl, rfl⟩
set_option maxHeartbeats 400000 in
theorem tell_there_IS (w : World) (b n : Nat) (l : List T3) (o : Nat → Prop) (h : Tab 55 w b n l o) (hn : n ≤ 1000) (r : Int) (q a : Value) (hr : 1 ≤ r) (hx : ∃ x ∈ l, x.r = r) :
    Calls Try.prog 14 #[.pointer (some ⟨b, 0, none⟩), .int .i64 r, q, a] w fun e w' => e = .returned (.bool false) ∧ Below w.heap.size w w' := by
  have hd : decide (r < 1) = false := by simpa using hr
  have hp : ∃ k : Nat, posI l r = k := by
    refine ⟨posOf l r, ?_⟩
    rw [posI, if_pos]
    unfold posOf
    rw [List.findIdx_lt_length]
    obtain ⟨x, h1, h2⟩ := hx
    exact ⟨x, h1, by simpa using h2⟩
  obtain ⟨k, hk⟩ := hp
  have HP := Lib.hid hk
  have H := Lib.hid h
  clear h hx hk
  go_enter Try.func14, Try.ntmps14
  go_wp2_with fail
  refine (find_IS w b n l o H.out hn r).mono ?_
  rw [HP.out]
  rintro e w1 ⟨rfl, b1⟩
  have B1 := Lib.hid b1
  clear b1
  go_wp2
  go_ret
  exact ⟨rfl, B1.out⟩
theorem slice_IS (w : World) (ao : Option Addr) (n cap k : Nat) (hn : k ≤ n) : (Instr.slice 51 (.slice ao n cap) (some (.int .i64 k)) none none).run Try.prog w = .ok (.slice (adv ao cap k 3) (n - k) (cap - k)) w := by
  obtain ⟨i0, hi, hz0, hz1, hz2⟩ := info_parts infot_IS
  have he : Try.prog.elem 51 = 55 := by simp [Program.elem, Try.underlying51]
  exact run_cut (P := Try.prog) 51 3 (by rw [he]; exact Try.underlying51) (fun w => by rw [he]; simp [sizeOf, typeInfo, hi, hz1]) ao n cap k hn w
set_option maxHeartbeats 1000000 in
theorem tell_ok_IS (w : World) (b n : Nat) (l : List T3) (o : Nat → Prop) (h : Tab 55 w b n l o) (hn : n ≤ 1000) (r : Int) (q : Int) (a : ByteArray) (hr : 1 ≤ r) (hx : ∀ x ∈ l, x.r ≠ r) :
    Calls Try.prog 14 #[.pointer (some ⟨b, 0, none⟩), .int .i64 r, .int .i64 q, .string a] w fun e w' => e = .returned (.bool true) ∧ ∃ o', Tab 55 w' b n ((l ++ [T3.mk r (.int .i64 q) (.string a)]).drop (l.length + 1 - n)) o' ∧ Kept (fun k => k = b ∨ o k) w w' ∧ ∀ k, o' k → w.heap.size ≤ k := by
  have hd : decide (r < 1) = false := by simpa using hr
  have HP := Lib.hid (posI_none hx)
  have H := Lib.hid h
  obtain ⟨T, ao, cap, hbb, hs, ho⟩ := h.hb
  have HBB := Lib.hid hbb
  have HS := Lib.hid hs
  have HO := Lib.hid ho
  have hlt := h.lt
  have hll := h.len
  obtain ⟨i0, hi, hz0, hz1, hz2⟩ := info_parts infot_IS
  have HI := Lib.hid hi
  have HZ0 := Lib.hid hz0
  have HZ1 := Lib.hid hz1
  have HZ2 := Lib.hid hz2
  clear hi hz0 hz1 hz2 h hx hbb hs ho
  obtain ⟨L, hL⟩ : ∃ L, L = l.length := ⟨_, rfl⟩
  rw [← hL] at HBB HS hll ⊢
  have HL := Lib.hid hL
  clear hL
  go_enter Try.func14, Try.ntmps14
  go_wp2_with fail
  refine (find_IS w b n l o H.out hn r).mono ?_
  rw [HP.out]
  rintro e w1 ⟨rfl, b1⟩
  have cb : w1.cell? ⟨b, 1, none⟩ = some (.slice ao L cap) := (b1.cell (p := ⟨b, 1, none⟩) hlt).trans (by simp [World.cell?, HBB.out])
  have B1 := Lib.hid b1
  clear b1
  have HSA : Hid (Sl (w1.alloc (.cells #[.int .i64 r, .int .i64 q, .string a] 55)) 55 3 ao L cap (cellsOf l)) := Lib.hid ((HS.out.kept (Kept.of_below (S := fun _ => False) B1.out (fun k h1 h2 => by omega)) (fun _ _ h => h)).kept ((Kept.refl (fun _ => False) w1).alloc _) (fun _ _ h => h))
  go_wp2_with (at_builtin; go_must (refine wpList_append_sl _ rfl _ _ 51 51 rfl 55 i0 (.agg #[.int .i64 0, .int .i64 0, .string ⟨#[]⟩]) 3 32 Try.underlying51 HI.out HZ0.out HZ1.out HZ2.out rfl ao L cap _ HSA.out rfl _ rfl 1 [.int .i64 r, .int .i64 q, .string a] (srcNew w1 Try.underlying51 [.int .i64 r, .int .i64 q, .string a] 1 3 rfl (by simp [Value.oneCell']) 55) (by simp only [maxLen]; omega) (by omega) ?_); intro ao' cap' w5 hSl hKe hown; have hb5 : w5.heap[b]? = some (.cells #[.int .i64 n, .slice ao L cap] T (0, 0)) := tell_b hKe B1.out hlt (fun h => H.out.ob (HO.out b h)) HBB.out; have hc5 : w5.cell? ⟨b, 1, none⟩ = some (.slice ao L cap) := cell_of_block hb5 1 _ rfl; have hf5 : w5.frozen? ⟨b, 1, none⟩ = false := free_of_block hb5 1; have HB5 := Lib.hid hb5; have HSL := Lib.hid hSl; have HKE := Lib.hid hKe; have HOW := Lib.hid hown; clear hSl hKe hown hb5)
  obtain ⟨w6, hw6⟩ : ∃ w6, w6 = w5.setCell ⟨b, 1, none⟩ (.slice ao' (L + 1) cap') := ⟨_, rfl⟩
  obtain ⟨hb6, k6, s6⟩ := tell_6 hw6 HB5.out HSL.out HKE.out HOW.out B1.out hlt (fun h => H.out.ob (HO.out b h)) (fun k hk => HO.out k hk)
  have c0 : w6.cell? ⟨b, 0, none⟩ = some (.int .i64 n) := cell_of_block hb6 0 _ rfl
  have c1 : w6.cell? ⟨b, 1, none⟩ = some (.slice ao' (L + 1) cap') := cell_of_block hb6 1 _ rfl
  have f1 : w6.frozen? ⟨b, 1, none⟩ = false := free_of_block hb6 1
  rw [← hw6]
  have HB6 := Lib.hid hb6
  have K6 := Lib.hid k6
  have S6 := Lib.hid s6
  obtain ⟨k, hk⟩ : ∃ k, k = L + 1 - n := ⟨_, rfl⟩
  have hmax : ∀ (w : World) ts t, (Builtin.max_ ts t #[.int .i64 0, .int .i64 ((L : Int) + 1 - n)]).run Try.prog w = .ok (.int .i64 k) w := fun w ts t => by rw [run_max_int2, hk]; congr 2; split <;> omega
  have hcut := fun w => slice_IS w ao' (L + 1) cap' k (by omega)
  have hkL : k ≤ L + 1 := by omega
  have hL1 : L + 1 - k ≤ n := by omega
  have S7 : Hid (Sl w6.drew 55 3 (adv ao' cap' k 3) (L + 1 - k) (cap' - k) (cellsOf ((l ++ [T3.mk r (.int .i64 q) (.string a)]).drop k))) := Lib.hid (by
    have h := s6.cut hkL
    rw [show cellsOf l ++ [.int .i64 r, .int .i64 q, .string a] = cellsOf (l ++ [T3.mk r (.int .i64 q) (.string a)]) from by rw [cellsOf_append]; rfl, cellsOf_drop] at h
    exact h.drew)
  have ONE7 : Hid (∀ x ∈ (l ++ [T3.mk r (.int .i64 q) (.string a)]).drop k, x.q.oneCell' = true ∧ x.a.oneCell' = true) := Lib.hid (fun x hx => by
    rcases List.mem_append.1 (List.mem_of_mem_drop hx) with h | h
    · exact H.out.one x h
    · simp only [List.mem_singleton] at h; subst h; exact ⟨rfl, rfl⟩)
  have HK := Lib.hid hk
  clear hw6 hb6 k6 s6 hk hc5 hf5 cb
  have hk0 : (0 : Int) ≤ (k : Int) := Int.natCast_nonneg _
  have hk1 : (k : Int) ≤ (L : Int) + 1 := by omega
  have hk2 : (k : Int) ≤ ((L + 1 : Nat) : Int) := by omega
  have hw1 : IntKind.i64.wrap ((L : Int) + 1 - n) = (L : Int) + 1 - n := IntWalk.i64_in _ (by omega)
  have hw2 : IntKind.i64.wrap (((L + 1 : Nat) : Int) - n) = (L : Int) + 1 - n := by rw [IntWalk.i64_in _ (by omega)]; omega
  have hblt : b < w6.heap.size := Nat.lt_of_lt_of_le hlt K6.out.size
  go_region_law
    ((go_simp; go_at_call 23; refine (clone_IS (adv ao' cap' k 3) (L + 1 - k) (cap' - k) ((l ++ [T3.mk r (.int .i64 q) (.string a)]).drop k) _ (by exact S7.out) (by exact ONE7.out) (by omega)).mono ?_; rintro e w7 ⟨ao2, cap2, rfl, hs7, k7, o7⟩; have c70 : w7.cell? ⟨b, 0, none⟩ = some (.int .i64 n) := cell_of_block ((k7.block b hblt (fun h => h)).trans HB6.out) 0 _ rfl; have c71 : w7.cell? ⟨b, 1, none⟩ = some (.slice ao' (L + 1) cap') := cell_of_block ((k7.block b hblt (fun h => h)).trans HB6.out) 1 _ rfl; have f71 : w7.frozen? ⟨b, 1, none⟩ = false := free_of_block ((k7.block b hblt (fun h => h)).trans HB6.out) 1; have HS7 := Lib.hid hs7; have K7 := Lib.hid k7; have O7 := Lib.hid o7; clear hs7 k7 o7))
  all_goals
    go_wp2
    go_ret
    rw [show L + 1 - n = k from HK.out.symm]
    exact tell_end HB6.out K6.out HS7.out K7.out O7.out ONE7.out (by rw [List.length_drop]; simp; have := HL.out; omega) hlt (by have := HL.out; simp [List.length_drop]; omega)
end Go.Proofs.Ytooknplhfimieaa

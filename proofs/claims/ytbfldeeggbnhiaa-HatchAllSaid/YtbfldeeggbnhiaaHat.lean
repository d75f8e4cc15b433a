/- What hatch's methods do, told of the two lanes as lists. Conditions: the hatch was made by New. -/
import Derived.Test.YtbfldeeggbnhiaaRows
import Derived.Test.YtbfldeeggbnhiaaMem
import Derived.Test.YtbfldeeggbnhiaaWalkC
import Derived.Conc.LoneSelectN
namespace Go.Proofs.Ytbfldeeggbnhiaa
open Go.RowKit Go.Mem
structure HatP where
  b : Nat
  c1 : Nat
  c2 : Nat
  n : Nat
def HatP.has (p : HatP) (k : Nat) : Prop := k = p.b ∨ k = p.c1 ∨ k = p.c2
structure Hat (w : World) (p : HatP) (f s : List Value) (l : Nat) : Prop where
  b : p.b < w.heap.size
  c1 : p.c1 < w.heap.size
  c2 : p.c2 < w.heap.size
  b1 : p.b ≠ p.c1
  b2 : p.b ≠ p.c2
  c12 : p.c1 ≠ p.c2
  fn : f.length ≤ p.n
  sn : s.length ≤ p.n
  hb : ∃ T, w.heap[p.b]? = some (.cells #[.chan (some p.c1), .chan (some p.c2), .int .i64 l] T (0, 0))
  h1 : ∃ s r, w.heap[p.c1]? = some (.chan p.n f.toArray false s r false)
  h2 : ∃ t r, w.heap[p.c2]? = some (.chan p.n s.toArray false t r false)
section
variable {w w' : World} {p : HatP} {f s : List Value} {l : Nat}
theorem Hat.kept (h : Hat w p f s l) {S : Nat → Prop} (hk : Kept S w w') (hs : ∀ k, p.has k → ¬ S k) : Hat w' p f s l := by
  obtain ⟨a1, a2, a3, a4, a5, a6, a7, a8, ⟨T, a9⟩, ⟨s1, r1, a10⟩, s2, r2, a11⟩ := h
  have := hk.size
  exact ⟨by omega, by omega, by omega, a4, a5, a6, a7, a8, ⟨T, (hk.block _ a1 (hs _ (.inl rfl))).trans a9⟩, ⟨s1, r1, (hk.block _ a2 (hs _ (.inr (.inl rfl)))).trans a10⟩, s2, r2, (hk.block _ a3 (hs _ (.inr (.inr rfl)))).trans a11⟩
theorem Hat.same (h : Hat w p f s l) (e : w'.heap = w.heap) : Hat w' p f s l := by
  obtain ⟨a1, a2, a3, a4, a5, a6, a7, a8, a9, a10, a11⟩ := h
  exact ⟨by rw [e]; exact a1, by rw [e]; exact a2, by rw [e]; exact a3, a4, a5, a6, a7, a8, by rw [e]; exact a9, by rw [e]; exact a10, by rw [e]; exact a11⟩
theorem Hat.f0 (h : Hat w p f s l) : w.cell? ⟨p.b, 0, none⟩ = some (.chan (some p.c1)) := by obtain ⟨T, hb⟩ := h.hb; simp [World.cell?, hb]
theorem Hat.f1 (h : Hat w p f s l) : w.cell? ⟨p.b, 1, none⟩ = some (.chan (some p.c2)) := by obtain ⟨T, hb⟩ := h.hb; simp [World.cell?, hb]
theorem Hat.f2 (h : Hat w p f s l) : w.cell? ⟨p.b, 2, none⟩ = some (.int .i64 l) := by obtain ⟨T, hb⟩ := h.hb; simp [World.cell?, hb]
theorem Hat.free (h : Hat w p f s l) : w.frozen? ⟨p.b, 2, none⟩ = false := by obtain ⟨T, hb⟩ := h.hb; simp [World.frozen?, hb]
theorem setChan_at (w : World) (c cap : Nat) (buf : Array Value) (s r : Nat) (h : c < w.heap.size) : (w.setChan c cap buf false s r false).heap[c]? = some (.chan cap buf false s r false) := by
  simp [World.setChan, h]
theorem setChan_ne (w : World) (c k cap : Nat) (buf : Array Value) (s r : Nat) (h : c ≠ k) : (w.setChan c cap buf false s r false).heap[k]? = w.heap[k]? := by
  simp [World.setChan, Array.getElem?_setIfInBounds_ne h]
theorem kept_setChan (w : World) (c cap : Nat) (buf : Array Value) (s r : Nat) {S : Nat → Prop} (h : S c) : Kept S w (w.setChan c cap buf false s r false) :=
  ⟨rfl, rfl, rfl, by simp [World.setChan], fun k _ hs => setChan_ne w c k cap buf s r (fun e => hs (e ▸ h))⟩
theorem Hat.set1 (h : Hat w p f s l) (f' : List Value) (hf : f'.length ≤ p.n) (q r : Nat) : Hat (w.setChan p.c1 p.n f'.toArray false q r false) p f' s l := by
  obtain ⟨a1, a2, a3, a4, a5, a6, a7, a8, ⟨T, a9⟩, ⟨s1, r1, a10⟩, s2, r2, a11⟩ := h
  have hz : (w.setChan p.c1 p.n f'.toArray false q r false).heap.size = w.heap.size := by simp [World.setChan]
  exact ⟨by omega, by omega, by omega, a4, a5, a6, hf, a8, ⟨T, (setChan_ne _ _ _ _ _ _ _ (Ne.symm a4)).trans a9⟩, ⟨q, r, setChan_at _ _ _ _ _ _ a2⟩, s2, r2, (setChan_ne _ _ _ _ _ _ _ a6).trans a11⟩
theorem Hat.set2 (h : Hat w p f s l) (s' : List Value) (hf : s'.length ≤ p.n) (q r : Nat) : Hat (w.setChan p.c2 p.n s'.toArray false q r false) p f s' l := by
  obtain ⟨a1, a2, a3, a4, a5, a6, a7, a8, ⟨T, a9⟩, ⟨s1, r1, a10⟩, s2, r2, a11⟩ := h
  have hz : (w.setChan p.c2 p.n s'.toArray false q r false).heap.size = w.heap.size := by simp [World.setChan]
  exact ⟨by omega, by omega, by omega, a4, a5, a6, a7, hf, ⟨T, (setChan_ne _ _ _ _ _ _ _ (Ne.symm a5)).trans a9⟩, ⟨s1, r1, (setChan_ne _ _ _ _ _ _ _ (Ne.symm a6)).trans a10⟩, q, r, setChan_at _ _ _ _ _ _ a3⟩
theorem Hat.lose (h : Hat w p f s l) : Hat (w.setCell ⟨p.b, 2, none⟩ (.int .i64 (l + 1))) p f s (l + 1) := by
  obtain ⟨a1, a2, a3, a4, a5, a6, a7, a8, ⟨T, a9⟩, ⟨s1, r1, a10⟩, s2, r2, a11⟩ := h
  have hz : (w.setCell ⟨p.b, 2, none⟩ (.int .i64 (l + 1))).heap.size = w.heap.size := by simp [World.setCell]
  exact ⟨by omega, by omega, by omega, a4, a5, a6, a7, a8, ⟨T, by rw [Go.Mem.heap_setCell_same w p.b 2 _ _ T (0, 0) a9]; simp⟩, ⟨s1, r1, (Below.heap_setCell _ _ _ _ (Ne.symm a4)).trans a10⟩, s2, r2, (Below.heap_setCell _ _ _ _ (Ne.symm a5)).trans a11⟩
/-- A new hatch, its first lane made first; or its second. -/
theorem new_lem1 (w : World) (n : Nat) (T : TypeId) : ∃ p : HatP, Ending.returned (.pointer (some ⟨w.heap.size + 1 + 1, 0, none⟩)) = Ending.returned (.pointer (some ⟨p.b, 0, none⟩)) ∧ p.n = n ∧
    Hat (((w.alloc (.chan n #[] false 0 0 false)).alloc (.chan n #[] false 0 0 false)).alloc (.cells #[.chan (some (w.heap.size)), .chan (some (w.heap.size + 1)), .int .i64 0] T)).drew p [] [] 0 ∧
    Kept (fun _ => False) w (((w.alloc (.chan n #[] false 0 0 false)).alloc (.chan n #[] false 0 0 false)).alloc (.cells #[.chan (some (w.heap.size)), .chan (some (w.heap.size + 1)), .int .i64 0] T)).drew ∧ ∀ k, p.has k → w.heap.size ≤ k := by
  have h2 := heap_alloc_new ((w.alloc (.chan n #[] false 0 0 false)).alloc (.chan n #[] false 0 0 false)) (.cells #[.chan (some (w.heap.size)), .chan (some (w.heap.size + 1)), .int .i64 0] T)
  have h0 : (((w.alloc (.chan n #[] false 0 0 false)).alloc (.chan n #[] false 0 0 false)).alloc (.cells #[.chan (some (w.heap.size)), .chan (some (w.heap.size + 1)), .int .i64 0] T)).drew.heap[w.heap.size]? = some (.chan n #[] false 0 0 false) := by
    show (World.alloc _ _).heap[_]? = _
    rw [Below.heap_alloc _ _ _ (by simp; omega), Below.heap_alloc _ _ _ (by simp)]
    exact heap_alloc_new w _
  have h1 : (((w.alloc (.chan n #[] false 0 0 false)).alloc (.chan n #[] false 0 0 false)).alloc (.cells #[.chan (some (w.heap.size)), .chan (some (w.heap.size + 1)), .int .i64 0] T)).drew.heap[w.heap.size + 1]? = some (.chan n #[] false 0 0 false) := by
    have := heap_alloc_new (w.alloc (.chan n #[] false 0 0 false)) (.chan n #[] false 0 0 false)
    show (World.alloc _ _).heap[_]? = _
    rw [Below.heap_alloc _ _ _ (by simp)]
    simpa only [World.size_alloc] using this
  have hz : (((w.alloc (.chan n #[] false 0 0 false)).alloc (.chan n #[] false 0 0 false)).alloc (.cells #[.chan (some (w.heap.size)), .chan (some (w.heap.size + 1)), .int .i64 0] T)).drew.heap.size = w.heap.size + 1 + 1 + 1 := by simp
  have h2' := h2
  simp only [World.size_alloc] at h2'
  refine ⟨⟨w.heap.size + 1 + 1, w.heap.size, w.heap.size + 1, n⟩, rfl, rfl, ⟨?_, ?_, ?_, ?_, ?_, ?_, Nat.zero_le _, Nat.zero_le _, ⟨T, h2'⟩, ⟨0, 0, h0⟩, 0, 0, h1⟩, (((Kept.refl _ w).alloc _).alloc _).alloc _ |>.drew, ?_⟩
  any_goals (rw [hz]; simp only []; omega)
  any_goals (simp only [ne_eq]; omega)
  rintro k (rfl | rfl | rfl) <;> simp only [] <;> omega
theorem new_lem2 (w : World) (n : Nat) (T : TypeId) : ∃ p : HatP, Ending.returned (.pointer (some ⟨w.heap.size + 1 + 1, 0, none⟩)) = Ending.returned (.pointer (some ⟨p.b, 0, none⟩)) ∧ p.n = n ∧
    Hat (((w.alloc (.chan n #[] false 0 0 false)).alloc (.chan n #[] false 0 0 false)).alloc (.cells #[.chan (some (w.heap.size + 1)), .chan (some (w.heap.size)), .int .i64 0] T)).drew p [] [] 0 ∧
    Kept (fun _ => False) w (((w.alloc (.chan n #[] false 0 0 false)).alloc (.chan n #[] false 0 0 false)).alloc (.cells #[.chan (some (w.heap.size + 1)), .chan (some (w.heap.size)), .int .i64 0] T)).drew ∧ ∀ k, p.has k → w.heap.size ≤ k := by
  have h2 := heap_alloc_new ((w.alloc (.chan n #[] false 0 0 false)).alloc (.chan n #[] false 0 0 false)) (.cells #[.chan (some (w.heap.size + 1)), .chan (some (w.heap.size)), .int .i64 0] T)
  have h0 : (((w.alloc (.chan n #[] false 0 0 false)).alloc (.chan n #[] false 0 0 false)).alloc (.cells #[.chan (some (w.heap.size + 1)), .chan (some (w.heap.size)), .int .i64 0] T)).drew.heap[w.heap.size]? = some (.chan n #[] false 0 0 false) := by
    show (World.alloc _ _).heap[_]? = _
    rw [Below.heap_alloc _ _ _ (by simp; omega), Below.heap_alloc _ _ _ (by simp)]
    exact heap_alloc_new w _
  have h1 : (((w.alloc (.chan n #[] false 0 0 false)).alloc (.chan n #[] false 0 0 false)).alloc (.cells #[.chan (some (w.heap.size + 1)), .chan (some (w.heap.size)), .int .i64 0] T)).drew.heap[w.heap.size + 1]? = some (.chan n #[] false 0 0 false) := by
    have := heap_alloc_new (w.alloc (.chan n #[] false 0 0 false)) (.chan n #[] false 0 0 false)
    show (World.alloc _ _).heap[_]? = _
    rw [Below.heap_alloc _ _ _ (by simp)]
    simpa only [World.size_alloc] using this
  have hz : (((w.alloc (.chan n #[] false 0 0 false)).alloc (.chan n #[] false 0 0 false)).alloc (.cells #[.chan (some (w.heap.size + 1)), .chan (some (w.heap.size)), .int .i64 0] T)).drew.heap.size = w.heap.size + 1 + 1 + 1 := by simp
  have h2' := h2
  simp only [World.size_alloc] at h2'
  refine ⟨⟨w.heap.size + 1 + 1, w.heap.size + 1, w.heap.size, n⟩, rfl, rfl, ⟨?_, ?_, ?_, ?_, ?_, ?_, Nat.zero_le _, Nat.zero_le _, ⟨T, h2'⟩, ⟨0, 0, h1⟩, 0, 0, h0⟩, (((Kept.refl _ w).alloc _).alloc _).alloc _ |>.drew, ?_⟩
  any_goals (rw [hz]; simp only []; omega)
  any_goals (simp only [ne_eq]; omega)
  rintro k (rfl | rfl | rfl) <;> simp only [] <;> omega
theorem HatP.b_has (p : HatP) : p.has p.b := .inl rfl
theorem HatP.c1_has (p : HatP) : p.has p.c1 := .inr (.inl rfl)
theorem HatP.c2_has (p : HatP) : p.has p.c2 := .inr (.inr rfl)
end
set_option maxHeartbeats 400000 in
theorem fast_ok_int (x : Value) (w : World) (p : HatP) (f s : List Value) (l : Nat) (h : Hat w p f s l) (hr : f.length < p.n) :
    Calls Try.prog 11 #[.pointer (some ⟨p.b, 0, none⟩), x] w fun e w' => e = .returned (.bool true) ∧ Hat w' p (f ++ [x]) s l ∧ Kept p.has w w' := by
  have c0 := h.f0
  obtain ⟨q, r, hc⟩ := h.h1
  have H := Lib.hid h
  have HC := Lib.hid hc
  have HR := Lib.hid hr
  clear h hc hr
  go_enter Try.func11, Try.ntmps11
  go_wp2_with (go_at_call 28; refine (put_room_int _ _ _ _ _ _ _ _ HC.out (by simpa using HR.out)).mono ?_; rintro e w' ⟨rfl, rfl⟩)
  go_ret
  exact ⟨rfl, H.out.set1 _ (by have := HR.out; simp; omega) _ _, kept_setChan _ _ _ _ _ _ p.c1_has⟩
set_option maxHeartbeats 400000 in
theorem fast_full_int (x : Value) (w : World) (p : HatP) (f s : List Value) (l : Nat) (h : Hat w p f s l) (hr : f.length = p.n) (hl : l < 1000000) :
    Calls Try.prog 11 #[.pointer (some ⟨p.b, 0, none⟩), x] w fun e w' => e = .returned (.bool false) ∧ Hat w' p f s (l + 1) ∧ Kept p.has w w' := by
  have c0 := h.f0
  obtain ⟨q, r, hc⟩ := h.h1
  have H := Lib.hid h
  have HC := Lib.hid hc
  have HR := Lib.hid hr
  clear h hc hr
  go_enter Try.func11, Try.ntmps11
  go_wp2_with (go_at_call 28; refine (put_full_int ⟨p.b, 0, none⟩ _ _ _ _ _ _ (l : Int) _ HC.out (by have := HR.out; simp; omega) H.out.f2 H.out.free rfl (by omega) (by omega)).mono ?_; rintro e w' ⟨rfl, rfl⟩)
  go_ret
  exact ⟨rfl, H.out.lose, (Kept.refl _ _).setCell p.b_has _⟩
set_option maxHeartbeats 400000 in
theorem slow_ok_int (x : Value) (w : World) (p : HatP) (f s : List Value) (l : Nat) (h : Hat w p f s l) (hr : s.length < p.n) :
    Calls Try.prog 12 #[.pointer (some ⟨p.b, 0, none⟩), x] w fun e w' => e = .returned (.bool true) ∧ Hat w' p f (s ++ [x]) l ∧ Kept p.has w w' := by
  have c0 := h.f1
  obtain ⟨q, r, hc⟩ := h.h2
  have H := Lib.hid h
  have HC := Lib.hid hc
  have HR := Lib.hid hr
  clear h hc hr
  go_enter Try.func12, Try.ntmps12
  go_wp2_with (go_at_call 28; refine (put_room_int _ _ _ _ _ _ _ _ HC.out (by simpa using HR.out)).mono ?_; rintro e w' ⟨rfl, rfl⟩)
  go_ret
  exact ⟨rfl, H.out.set2 _ (by have := HR.out; simp; omega) _ _, kept_setChan _ _ _ _ _ _ p.c2_has⟩
set_option maxHeartbeats 400000 in
theorem slow_full_int (x : Value) (w : World) (p : HatP) (f s : List Value) (l : Nat) (h : Hat w p f s l) (hr : s.length = p.n) (hl : l < 1000000) :
    Calls Try.prog 12 #[.pointer (some ⟨p.b, 0, none⟩), x] w fun e w' => e = .returned (.bool false) ∧ Hat w' p f s (l + 1) ∧ Kept p.has w w' := by
  have c0 := h.f1
  obtain ⟨q, r, hc⟩ := h.h2
  have H := Lib.hid h
  have HC := Lib.hid hc
  have HR := Lib.hid hr
  clear h hc hr
  go_enter Try.func12, Try.ntmps12
  go_wp2_with (go_at_call 28; refine (put_full_int ⟨p.b, 0, none⟩ _ _ _ _ _ _ (l : Int) _ HC.out (by have := HR.out; simp; omega) H.out.f2 H.out.free rfl (by omega) (by omega)).mono ?_; rintro e w' ⟨rfl, rfl⟩)
  go_ret
  exact ⟨rfl, H.out.lose, (Kept.refl _ _).setCell p.b_has _⟩
theorem takef_int (x : Value) (w : World) (p : HatP) (f s : List Value) (l : Nat) (h : Hat w p (x :: f) s l) :
    Calls Try.prog 13 #[.pointer (some ⟨p.b, 0, none⟩)] w fun e w' => e = .returned (.tuple #[x, .bool true]) ∧ Hat w' p f s l ∧ Kept p.has w w' := by
  obtain ⟨q, r, hc⟩ := h.h1
  refine (take_fast_int p.b p.c1 p.n q r x f w h.f0 hc).mono ?_
  rintro e w' ⟨rfl, rfl⟩
  exact ⟨rfl, h.set1 _ (by have := h.fn; simp at this; omega) _ _, kept_setChan _ _ _ _ _ _ p.c1_has⟩
theorem takes_int (x : Value) (w : World) (p : HatP) (s : List Value) (l : Nat) (h : Hat w p [] (x :: s) l) :
    Calls Try.prog 13 #[.pointer (some ⟨p.b, 0, none⟩)] w fun e w' => e = .returned (.tuple #[x, .bool true]) ∧ Hat w' p [] s l ∧ Kept p.has w w' := by
  obtain ⟨q, r, hc⟩ := h.h1
  obtain ⟨q2, r2, hc2⟩ := h.h2
  refine (take_slow_int p.b p.c1 p.c2 p.n q r q2 r2 x s w h.f0 h.f1 hc hc2).mono ?_
  rintro e w' ⟨rfl, rfl⟩
  exact ⟨rfl, h.set2 _ (by have := h.sn; simp at this; omega) _ _, kept_setChan _ _ _ _ _ _ p.c2_has⟩
theorem take0_int (w : World) (p : HatP) (l : Nat) (h : Hat w p [] [] l) :
    Calls Try.prog 13 #[.pointer (some ⟨p.b, 0, none⟩)] w fun e w' => e = .returned (.tuple #[(.int .i64 0), .bool false]) ∧ Hat w' p [] [] l ∧ Kept p.has w w' := by
  obtain ⟨q, r, hc⟩ := h.h1
  obtain ⟨q2, r2, hc2⟩ := h.h2
  refine (take_none_int p.b p.c1 p.c2 p.n q r q2 r2 w h.f0 h.f1 hc hc2).mono ?_
  rintro e w' ⟨rfl, rfl⟩
  exact ⟨rfl, h, Kept.refl _ _⟩
set_option maxHeartbeats 400000 in
theorem lost_int (w : World) (p : HatP) (f s : List Value) (l : Nat) (h : Hat w p f s l) :
    Calls Try.prog 15 #[.pointer (some ⟨p.b, 0, none⟩)] w fun e w' => e = .returned (.int .i64 l) ∧ w' = w := by
  have c2 := h.f2
  have H := Lib.hid h
  clear h
  go_enter Try.func15, Try.ntmps15
  go_wp2
  go_ret
  exact ⟨rfl, rfl⟩
set_option maxHeartbeats 400000 in
theorem len_int (w : World) (p : HatP) (f s : List Value) (l : Nat) (h : Hat w p f s l) :
    Calls Try.prog 14 #[.pointer (some ⟨p.b, 0, none⟩)] w fun e w' => e = .returned (.tuple #[.int .i64 f.length, .int .i64 s.length]) ∧ Hat w' p f s l ∧ Kept p.has w w' := by
  have c0 := h.f0
  have c1 := h.f1
  obtain ⟨q, r, hc⟩ := h.h1
  obtain ⟨q2, r2, hc2⟩ := h.h2
  have hl1 := fun (w' : World) (e : w'.heap = w.heap) ty => Go.Conc.run_len_chan (P := Try.prog) (w := w') 49 ty Try.underlying49 (by rw [e]; exact hc)
  have hl2 := fun (w' : World) (e : w'.heap = w.heap) ty => Go.Conc.run_len_chan (P := Try.prog) (w := w') 49 ty Try.underlying49 (by rw [e]; exact hc2)
  have hl3 := fun ty => hl1 w.drew rfl ty
  have hl4 := fun ty => hl2 w.drew rfl ty
  have H := Lib.hid h
  clear h hl1 hl2 hc hc2
  go_enter Try.func14, Try.ntmps14
  go_wp2
  go_region
  all_goals
    go_wp2
    go_ret2
    exact ⟨rfl, H.out.same rfl, (Kept.refl _ _).drew⟩
set_option maxHeartbeats 400000 in
theorem new_int (r : Int) (n : Nat) (hn : n = max 1 (min r.toNat 64)) (w : World) :
    Calls Try.prog 10 #[.int .i64 r] w fun e w' => ∃ p : HatP, e = .returned (.pointer (some ⟨p.b, 0, none⟩)) ∧ p.n = n ∧ Hat w' p [] [] 0 ∧ Kept (fun _ => False) w w' ∧ ∀ k, p.has k → w.heap.size ≤ k := by
  have hinfo : (Try.prog.info? 3).map (·.bytes) = some 8 := by kernel_rfl
  obtain ⟨i, hi, hb⟩ := Option.map_eq_some_iff.1 hinfo
  have hmc : ∀ (m : Nat), m ≤ 64 → ∀ w : World, (Instr.makeChan 49 (.int .i64 m)).run Try.prog w = .ok (.chan (some w.heap.size)) (w.alloc (.chan m #[] false 0 0 false)) := fun m hm w =>
    Go.Conc.run_makeChan (P := Try.prog) (w := w) Try.underlying49 hi .i64 m (by omega) (by rw [hb]; omega)
  clear hinfo hi hb
  rcases (by omega : r < 1 ∨ 64 < r ∨ (1 ≤ r ∧ r ≤ 64)) with hr | hr | hr
  · have hm : ∀ w : World, (Instr.makeChan 49 (.int .i64 1)).run Try.prog w = .ok (.chan (some w.heap.size)) (w.alloc (.chan 1 #[] false 0 0 false)) := hmc 1 (by omega)
    obtain rfl : n = 1 := by omega
    clear hmc hn
    go_enter Try.func10, Try.ntmps10
    go_wp2
    go_region
    all_goals
      go_wp2
      go_ret
      first | exact new_lem1 _ _ _ | exact new_lem2 _ _ _
  · have hm : ∀ w : World, (Instr.makeChan 49 (.int .i64 64)).run Try.prog w = .ok (.chan (some w.heap.size)) (w.alloc (.chan 64 #[] false 0 0 false)) := hmc 64 (by omega)
    obtain rfl : n = 64 := by omega
    clear hmc hn
    go_enter Try.func10, Try.ntmps10
    go_wp2
    go_region
    all_goals
      go_wp2
      go_ret
      first | exact new_lem1 _ _ _ | exact new_lem2 _ _ _
  · obtain ⟨m, rfl⟩ : ∃ m : Nat, r = m := ⟨r.toNat, by omega⟩
    have hm := hmc m (by omega)
    obtain rfl : n = m := by omega
    clear hmc hn
    go_enter Try.func10, Try.ntmps10
    go_wp2
    go_region
    all_goals
      go_wp2
      go_ret
      first | exact new_lem1 _ _ _ | exact new_lem2 _ _ _
set_option maxHeartbeats 400000 in
theorem fast_ok_bool (x : Value) (w : World) (p : HatP) (f s : List Value) (l : Nat) (h : Hat w p f s l) (hr : f.length < p.n) :
    Calls Try.prog 17 #[.pointer (some ⟨p.b, 0, none⟩), x] w fun e w' => e = .returned (.bool true) ∧ Hat w' p (f ++ [x]) s l ∧ Kept p.has w w' := by
  have c0 := h.f0
  obtain ⟨q, r, hc⟩ := h.h1
  have H := Lib.hid h
  have HC := Lib.hid hc
  have HR := Lib.hid hr
  clear h hc hr
  go_enter Try.func17, Try.ntmps17
  go_wp2_with (go_at_call 29; refine (put_room_bool _ _ _ _ _ _ _ _ HC.out (by simpa using HR.out)).mono ?_; rintro e w' ⟨rfl, rfl⟩)
  go_ret
  exact ⟨rfl, H.out.set1 _ (by have := HR.out; simp; omega) _ _, kept_setChan _ _ _ _ _ _ p.c1_has⟩
set_option maxHeartbeats 400000 in
theorem fast_full_bool (x : Value) (w : World) (p : HatP) (f s : List Value) (l : Nat) (h : Hat w p f s l) (hr : f.length = p.n) (hl : l < 1000000) :
    Calls Try.prog 17 #[.pointer (some ⟨p.b, 0, none⟩), x] w fun e w' => e = .returned (.bool false) ∧ Hat w' p f s (l + 1) ∧ Kept p.has w w' := by
  have c0 := h.f0
  obtain ⟨q, r, hc⟩ := h.h1
  have H := Lib.hid h
  have HC := Lib.hid hc
  have HR := Lib.hid hr
  clear h hc hr
  go_enter Try.func17, Try.ntmps17
  go_wp2_with (go_at_call 29; refine (put_full_bool ⟨p.b, 0, none⟩ _ _ _ _ _ _ (l : Int) _ HC.out (by have := HR.out; simp; omega) H.out.f2 H.out.free rfl (by omega) (by omega)).mono ?_; rintro e w' ⟨rfl, rfl⟩)
  go_ret
  exact ⟨rfl, H.out.lose, (Kept.refl _ _).setCell p.b_has _⟩
set_option maxHeartbeats 400000 in
theorem slow_ok_bool (x : Value) (w : World) (p : HatP) (f s : List Value) (l : Nat) (h : Hat w p f s l) (hr : s.length < p.n) :
    Calls Try.prog 18 #[.pointer (some ⟨p.b, 0, none⟩), x] w fun e w' => e = .returned (.bool true) ∧ Hat w' p f (s ++ [x]) l ∧ Kept p.has w w' := by
  have c0 := h.f1
  obtain ⟨q, r, hc⟩ := h.h2
  have H := Lib.hid h
  have HC := Lib.hid hc
  have HR := Lib.hid hr
  clear h hc hr
  go_enter Try.func18, Try.ntmps18
  go_wp2_with (go_at_call 29; refine (put_room_bool _ _ _ _ _ _ _ _ HC.out (by simpa using HR.out)).mono ?_; rintro e w' ⟨rfl, rfl⟩)
  go_ret
  exact ⟨rfl, H.out.set2 _ (by have := HR.out; simp; omega) _ _, kept_setChan _ _ _ _ _ _ p.c2_has⟩
set_option maxHeartbeats 400000 in
theorem slow_full_bool (x : Value) (w : World) (p : HatP) (f s : List Value) (l : Nat) (h : Hat w p f s l) (hr : s.length = p.n) (hl : l < 1000000) :
    Calls Try.prog 18 #[.pointer (some ⟨p.b, 0, none⟩), x] w fun e w' => e = .returned (.bool false) ∧ Hat w' p f s (l + 1) ∧ Kept p.has w w' := by
  have c0 := h.f1
  obtain ⟨q, r, hc⟩ := h.h2
  have H := Lib.hid h
  have HC := Lib.hid hc
  have HR := Lib.hid hr
  clear h hc hr
  go_enter Try.func18, Try.ntmps18
  go_wp2_with (go_at_call 29; refine (put_full_bool ⟨p.b, 0, none⟩ _ _ _ _ _ _ (l : Int) _ HC.out (by have := HR.out; simp; omega) H.out.f2 H.out.free rfl (by omega) (by omega)).mono ?_; rintro e w' ⟨rfl, rfl⟩)
  go_ret
  exact ⟨rfl, H.out.lose, (Kept.refl _ _).setCell p.b_has _⟩
theorem takef_bool (x : Value) (w : World) (p : HatP) (f s : List Value) (l : Nat) (h : Hat w p (x :: f) s l) :
    Calls Try.prog 20 #[.pointer (some ⟨p.b, 0, none⟩)] w fun e w' => e = .returned (.tuple #[x, .bool true]) ∧ Hat w' p f s l ∧ Kept p.has w w' := by
  obtain ⟨q, r, hc⟩ := h.h1
  refine (take_fast_bool p.b p.c1 p.n q r x f w h.f0 hc).mono ?_
  rintro e w' ⟨rfl, rfl⟩
  exact ⟨rfl, h.set1 _ (by have := h.fn; simp at this; omega) _ _, kept_setChan _ _ _ _ _ _ p.c1_has⟩
theorem takes_bool (x : Value) (w : World) (p : HatP) (s : List Value) (l : Nat) (h : Hat w p [] (x :: s) l) :
    Calls Try.prog 20 #[.pointer (some ⟨p.b, 0, none⟩)] w fun e w' => e = .returned (.tuple #[x, .bool true]) ∧ Hat w' p [] s l ∧ Kept p.has w w' := by
  obtain ⟨q, r, hc⟩ := h.h1
  obtain ⟨q2, r2, hc2⟩ := h.h2
  refine (take_slow_bool p.b p.c1 p.c2 p.n q r q2 r2 x s w h.f0 h.f1 hc hc2).mono ?_
  rintro e w' ⟨rfl, rfl⟩
  exact ⟨rfl, h.set2 _ (by have := h.sn; simp at this; omega) _ _, kept_setChan _ _ _ _ _ _ p.c2_has⟩
theorem take0_bool (w : World) (p : HatP) (l : Nat) (h : Hat w p [] [] l) :
    Calls Try.prog 20 #[.pointer (some ⟨p.b, 0, none⟩)] w fun e w' => e = .returned (.tuple #[(.bool false), .bool false]) ∧ Hat w' p [] [] l ∧ Kept p.has w w' := by
  obtain ⟨q, r, hc⟩ := h.h1
  obtain ⟨q2, r2, hc2⟩ := h.h2
  refine (take_none_bool p.b p.c1 p.c2 p.n q r q2 r2 w h.f0 h.f1 hc hc2).mono ?_
  rintro e w' ⟨rfl, rfl⟩
  exact ⟨rfl, h, Kept.refl _ _⟩
set_option maxHeartbeats 400000 in
theorem lost_bool (w : World) (p : HatP) (f s : List Value) (l : Nat) (h : Hat w p f s l) :
    Calls Try.prog 21 #[.pointer (some ⟨p.b, 0, none⟩)] w fun e w' => e = .returned (.int .i64 l) ∧ w' = w := by
  have c2 := h.f2
  have H := Lib.hid h
  clear h
  go_enter Try.func21, Try.ntmps21
  go_wp2
  go_ret
  exact ⟨rfl, rfl⟩
set_option maxHeartbeats 400000 in
theorem len_bool (w : World) (p : HatP) (f s : List Value) (l : Nat) (h : Hat w p f s l) :
    Calls Try.prog 19 #[.pointer (some ⟨p.b, 0, none⟩)] w fun e w' => e = .returned (.tuple #[.int .i64 f.length, .int .i64 s.length]) ∧ Hat w' p f s l ∧ Kept p.has w w' := by
  have c0 := h.f0
  have c1 := h.f1
  obtain ⟨q, r, hc⟩ := h.h1
  obtain ⟨q2, r2, hc2⟩ := h.h2
  have hl1 := fun (w' : World) (e : w'.heap = w.heap) ty => Go.Conc.run_len_chan (P := Try.prog) (w := w') 53 ty Try.underlying53 (by rw [e]; exact hc)
  have hl2 := fun (w' : World) (e : w'.heap = w.heap) ty => Go.Conc.run_len_chan (P := Try.prog) (w := w') 53 ty Try.underlying53 (by rw [e]; exact hc2)
  have hl3 := fun ty => hl1 w.drew rfl ty
  have hl4 := fun ty => hl2 w.drew rfl ty
  have H := Lib.hid h
  clear h hl1 hl2 hc hc2
  go_enter Try.func19, Try.ntmps19
  go_wp2
  go_region
  all_goals
    go_wp2
    go_ret2
    exact ⟨rfl, H.out.same rfl, (Kept.refl _ _).drew⟩
set_option maxHeartbeats 400000 in
theorem new_bool (r : Int) (n : Nat) (hn : n = max 1 (min r.toNat 64)) (w : World) :
    Calls Try.prog 16 #[.int .i64 r] w fun e w' => ∃ p : HatP, e = .returned (.pointer (some ⟨p.b, 0, none⟩)) ∧ p.n = n ∧ Hat w' p [] [] 0 ∧ Kept (fun _ => False) w w' ∧ ∀ k, p.has k → w.heap.size ≤ k := by
  have hinfo : (Try.prog.info? 4).map (·.bytes) = some 1 := by kernel_rfl
  obtain ⟨i, hi, hb⟩ := Option.map_eq_some_iff.1 hinfo
  have hmc : ∀ (m : Nat), m ≤ 64 → ∀ w : World, (Instr.makeChan 53 (.int .i64 m)).run Try.prog w = .ok (.chan (some w.heap.size)) (w.alloc (.chan m #[] false 0 0 false)) := fun m hm w =>
    Go.Conc.run_makeChan (P := Try.prog) (w := w) Try.underlying53 hi .i64 m (by omega) (by rw [hb]; omega)
  clear hinfo hi hb
  rcases (by omega : r < 1 ∨ 64 < r ∨ (1 ≤ r ∧ r ≤ 64)) with hr | hr | hr
  · have hm : ∀ w : World, (Instr.makeChan 53 (.int .i64 1)).run Try.prog w = .ok (.chan (some w.heap.size)) (w.alloc (.chan 1 #[] false 0 0 false)) := hmc 1 (by omega)
    obtain rfl : n = 1 := by omega
    clear hmc hn
    go_enter Try.func16, Try.ntmps16
    go_wp2
    go_region
    all_goals
      go_wp2
      go_ret
      first | exact new_lem1 _ _ _ | exact new_lem2 _ _ _
  · have hm : ∀ w : World, (Instr.makeChan 53 (.int .i64 64)).run Try.prog w = .ok (.chan (some w.heap.size)) (w.alloc (.chan 64 #[] false 0 0 false)) := hmc 64 (by omega)
    obtain rfl : n = 64 := by omega
    clear hmc hn
    go_enter Try.func16, Try.ntmps16
    go_wp2
    go_region
    all_goals
      go_wp2
      go_ret
      first | exact new_lem1 _ _ _ | exact new_lem2 _ _ _
  · obtain ⟨m, rfl⟩ : ∃ m : Nat, r = m := ⟨r.toNat, by omega⟩
    have hm := hmc m (by omega)
    obtain rfl : n = m := by omega
    clear hmc hn
    go_enter Try.func16, Try.ntmps16
    go_wp2
    go_region
    all_goals
      go_wp2
      go_ret
      first | exact new_lem1 _ _ _ | exact new_lem2 _ _ _
set_option maxHeartbeats 400000 in
theorem fast_ok_string (x : Value) (w : World) (p : HatP) (f s : List Value) (l : Nat) (h : Hat w p f s l) (hr : f.length < p.n) :
    Calls Try.prog 26 #[.pointer (some ⟨p.b, 0, none⟩), x] w fun e w' => e = .returned (.bool true) ∧ Hat w' p (f ++ [x]) s l ∧ Kept p.has w w' := by
  have c0 := h.f0
  obtain ⟨q, r, hc⟩ := h.h1
  have H := Lib.hid h
  have HC := Lib.hid hc
  have HR := Lib.hid hr
  clear h hc hr
  go_enter Try.func26, Try.ntmps26
  go_wp2_with (go_at_call 30; refine (put_room_string _ _ _ _ _ _ _ _ HC.out (by simpa using HR.out)).mono ?_; rintro e w' ⟨rfl, rfl⟩)
  go_ret
  exact ⟨rfl, H.out.set1 _ (by have := HR.out; simp; omega) _ _, kept_setChan _ _ _ _ _ _ p.c1_has⟩
set_option maxHeartbeats 400000 in
theorem fast_full_string (x : Value) (w : World) (p : HatP) (f s : List Value) (l : Nat) (h : Hat w p f s l) (hr : f.length = p.n) (hl : l < 1000000) :
    Calls Try.prog 26 #[.pointer (some ⟨p.b, 0, none⟩), x] w fun e w' => e = .returned (.bool false) ∧ Hat w' p f s (l + 1) ∧ Kept p.has w w' := by
  have c0 := h.f0
  obtain ⟨q, r, hc⟩ := h.h1
  have H := Lib.hid h
  have HC := Lib.hid hc
  have HR := Lib.hid hr
  clear h hc hr
  go_enter Try.func26, Try.ntmps26
  go_wp2_with (go_at_call 30; refine (put_full_string ⟨p.b, 0, none⟩ _ _ _ _ _ _ (l : Int) _ HC.out (by have := HR.out; simp; omega) H.out.f2 H.out.free rfl (by omega) (by omega)).mono ?_; rintro e w' ⟨rfl, rfl⟩)
  go_ret
  exact ⟨rfl, H.out.lose, (Kept.refl _ _).setCell p.b_has _⟩
set_option maxHeartbeats 400000 in
theorem slow_ok_string (x : Value) (w : World) (p : HatP) (f s : List Value) (l : Nat) (h : Hat w p f s l) (hr : s.length < p.n) :
    Calls Try.prog 23 #[.pointer (some ⟨p.b, 0, none⟩), x] w fun e w' => e = .returned (.bool true) ∧ Hat w' p f (s ++ [x]) l ∧ Kept p.has w w' := by
  have c0 := h.f1
  obtain ⟨q, r, hc⟩ := h.h2
  have H := Lib.hid h
  have HC := Lib.hid hc
  have HR := Lib.hid hr
  clear h hc hr
  go_enter Try.func23, Try.ntmps23
  go_wp2_with (go_at_call 30; refine (put_room_string _ _ _ _ _ _ _ _ HC.out (by simpa using HR.out)).mono ?_; rintro e w' ⟨rfl, rfl⟩)
  go_ret
  exact ⟨rfl, H.out.set2 _ (by have := HR.out; simp; omega) _ _, kept_setChan _ _ _ _ _ _ p.c2_has⟩
set_option maxHeartbeats 400000 in
theorem slow_full_string (x : Value) (w : World) (p : HatP) (f s : List Value) (l : Nat) (h : Hat w p f s l) (hr : s.length = p.n) (hl : l < 1000000) :
    Calls Try.prog 23 #[.pointer (some ⟨p.b, 0, none⟩), x] w fun e w' => e = .returned (.bool false) ∧ Hat w' p f s (l + 1) ∧ Kept p.has w w' := by
  have c0 := h.f1
  obtain ⟨q, r, hc⟩ := h.h2
  have H := Lib.hid h
  have HC := Lib.hid hc
  have HR := Lib.hid hr
  clear h hc hr
  go_enter Try.func23, Try.ntmps23
  go_wp2_with (go_at_call 30; refine (put_full_string ⟨p.b, 0, none⟩ _ _ _ _ _ _ (l : Int) _ HC.out (by have := HR.out; simp; omega) H.out.f2 H.out.free rfl (by omega) (by omega)).mono ?_; rintro e w' ⟨rfl, rfl⟩)
  go_ret
  exact ⟨rfl, H.out.lose, (Kept.refl _ _).setCell p.b_has _⟩
theorem takef_string (x : Value) (w : World) (p : HatP) (f s : List Value) (l : Nat) (h : Hat w p (x :: f) s l) :
    Calls Try.prog 24 #[.pointer (some ⟨p.b, 0, none⟩)] w fun e w' => e = .returned (.tuple #[x, .bool true]) ∧ Hat w' p f s l ∧ Kept p.has w w' := by
  obtain ⟨q, r, hc⟩ := h.h1
  refine (take_fast_string p.b p.c1 p.n q r x f w h.f0 hc).mono ?_
  rintro e w' ⟨rfl, rfl⟩
  exact ⟨rfl, h.set1 _ (by have := h.fn; simp at this; omega) _ _, kept_setChan _ _ _ _ _ _ p.c1_has⟩
theorem takes_string (x : Value) (w : World) (p : HatP) (s : List Value) (l : Nat) (h : Hat w p [] (x :: s) l) :
    Calls Try.prog 24 #[.pointer (some ⟨p.b, 0, none⟩)] w fun e w' => e = .returned (.tuple #[x, .bool true]) ∧ Hat w' p [] s l ∧ Kept p.has w w' := by
  obtain ⟨q, r, hc⟩ := h.h1
  obtain ⟨q2, r2, hc2⟩ := h.h2
  refine (take_slow_string p.b p.c1 p.c2 p.n q r q2 r2 x s w h.f0 h.f1 hc hc2).mono ?_
  rintro e w' ⟨rfl, rfl⟩
  exact ⟨rfl, h.set2 _ (by have := h.sn; simp at this; omega) _ _, kept_setChan _ _ _ _ _ _ p.c2_has⟩
theorem take0_string (w : World) (p : HatP) (l : Nat) (h : Hat w p [] [] l) :
    Calls Try.prog 24 #[.pointer (some ⟨p.b, 0, none⟩)] w fun e w' => e = .returned (.tuple #[(.string ⟨#[]⟩), .bool false]) ∧ Hat w' p [] [] l ∧ Kept p.has w w' := by
  obtain ⟨q, r, hc⟩ := h.h1
  obtain ⟨q2, r2, hc2⟩ := h.h2
  refine (take_none_string p.b p.c1 p.c2 p.n q r q2 r2 w h.f0 h.f1 hc hc2).mono ?_
  rintro e w' ⟨rfl, rfl⟩
  exact ⟨rfl, h, Kept.refl _ _⟩
set_option maxHeartbeats 400000 in
theorem lost_string (w : World) (p : HatP) (f s : List Value) (l : Nat) (h : Hat w p f s l) :
    Calls Try.prog 25 #[.pointer (some ⟨p.b, 0, none⟩)] w fun e w' => e = .returned (.int .i64 l) ∧ w' = w := by
  have c2 := h.f2
  have H := Lib.hid h
  clear h
  go_enter Try.func25, Try.ntmps25
  go_wp2
  go_ret
  exact ⟨rfl, rfl⟩
set_option maxHeartbeats 400000 in
theorem len_string (w : World) (p : HatP) (f s : List Value) (l : Nat) (h : Hat w p f s l) :
    Calls Try.prog 27 #[.pointer (some ⟨p.b, 0, none⟩)] w fun e w' => e = .returned (.tuple #[.int .i64 f.length, .int .i64 s.length]) ∧ Hat w' p f s l ∧ Kept p.has w w' := by
  have c0 := h.f0
  have c1 := h.f1
  obtain ⟨q, r, hc⟩ := h.h1
  obtain ⟨q2, r2, hc2⟩ := h.h2
  have hl1 := fun (w' : World) (e : w'.heap = w.heap) ty => Go.Conc.run_len_chan (P := Try.prog) (w := w') 57 ty Try.underlying57 (by rw [e]; exact hc)
  have hl2 := fun (w' : World) (e : w'.heap = w.heap) ty => Go.Conc.run_len_chan (P := Try.prog) (w := w') 57 ty Try.underlying57 (by rw [e]; exact hc2)
  have hl3 := fun ty => hl1 w.drew rfl ty
  have hl4 := fun ty => hl2 w.drew rfl ty
  have H := Lib.hid h
  clear h hl1 hl2 hc hc2
  go_enter Try.func27, Try.ntmps27
  go_wp2
  go_region
  all_goals
    go_wp2
    go_ret2
    exact ⟨rfl, H.out.same rfl, (Kept.refl _ _).drew⟩
set_option maxHeartbeats 400000 in
theorem new_string (r : Int) (n : Nat) (hn : n = max 1 (min r.toNat 64)) (w : World) :
    Calls Try.prog 22 #[.int .i64 r] w fun e w' => ∃ p : HatP, e = .returned (.pointer (some ⟨p.b, 0, none⟩)) ∧ p.n = n ∧ Hat w' p [] [] 0 ∧ Kept (fun _ => False) w w' ∧ ∀ k, p.has k → w.heap.size ≤ k := by
  have hinfo : (Try.prog.info? 9).map (·.bytes) = some 16 := by kernel_rfl
  obtain ⟨i, hi, hb⟩ := Option.map_eq_some_iff.1 hinfo
  have hmc : ∀ (m : Nat), m ≤ 64 → ∀ w : World, (Instr.makeChan 57 (.int .i64 m)).run Try.prog w = .ok (.chan (some w.heap.size)) (w.alloc (.chan m #[] false 0 0 false)) := fun m hm w =>
    Go.Conc.run_makeChan (P := Try.prog) (w := w) Try.underlying57 hi .i64 m (by omega) (by rw [hb]; omega)
  clear hinfo hi hb
  rcases (by omega : r < 1 ∨ 64 < r ∨ (1 ≤ r ∧ r ≤ 64)) with hr | hr | hr
  · have hm : ∀ w : World, (Instr.makeChan 57 (.int .i64 1)).run Try.prog w = .ok (.chan (some w.heap.size)) (w.alloc (.chan 1 #[] false 0 0 false)) := hmc 1 (by omega)
    obtain rfl : n = 1 := by omega
    clear hmc hn
    go_enter Try.func22, Try.ntmps22
    go_wp2
    go_region
    all_goals
      go_wp2
      go_ret
      first | exact new_lem1 _ _ _ | exact new_lem2 _ _ _
  · have hm : ∀ w : World, (Instr.makeChan 57 (.int .i64 64)).run Try.prog w = .ok (.chan (some w.heap.size)) (w.alloc (.chan 64 #[] false 0 0 false)) := hmc 64 (by omega)
    obtain rfl : n = 64 := by omega
    clear hmc hn
    go_enter Try.func22, Try.ntmps22
    go_wp2
    go_region
    all_goals
      go_wp2
      go_ret
      first | exact new_lem1 _ _ _ | exact new_lem2 _ _ _
  · obtain ⟨m, rfl⟩ : ∃ m : Nat, r = m := ⟨r.toNat, by omega⟩
    have hm := hmc m (by omega)
    obtain rfl : n = m := by omega
    clear hmc hn
    go_enter Try.func22, Try.ntmps22
    go_wp2
    go_region
    all_goals
      go_wp2
      go_ret
      first | exact new_lem1 _ _ _ | exact new_lem2 _ _ _
end Go.Proofs.Ytbfldeeggbnhiaa

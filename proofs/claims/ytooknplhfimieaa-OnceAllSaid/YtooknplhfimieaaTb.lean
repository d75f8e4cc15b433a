/- once's methods again, told from a world ahead: of what was there then nothing turns. Conditions: the table was made by New. -/
import Derived.Test.YtooknplhfimieaaTab
namespace Go.Proofs.Ytooknplhfimieaa
open Go.RowKit Go.Mem
def Tb (told : TypeId) (w0 w : World) (b n : Nat) (l : List T3) : Prop := ∃ o, Tab told w b n l o ∧ (∀ k, o k → w0.heap.size ≤ k) ∧ w0.heap.size ≤ b ∧ Below w0.heap.size w0 w
theorem Tb.bel {told : TypeId} {w0 w : World} {b n : Nat} {l : List T3} (h : Tb told w0 w b n l) : Below w0.heap.size w0 w := by obtain ⟨_, _, _, _, h⟩ := h; exact h
theorem Tb.below {told : TypeId} {w0 w w' : World} {b n : Nat} {l : List T3} (h : Tb told w0 w b n l) (hb : Below w.heap.size w w') : Tb told w0 w' b n l := by
  obtain ⟨o, ht, ho, hbb, hB⟩ := h
  exact ⟨o, ht.kept (S := fun k => w.heap.size ≤ k) (Kept.of_below hb (fun k h1 h2 => h2)) (fun h => by have := ht.lt; omega) (fun k hk h => by have := ht.olt k hk; omega), ho, hbb, hB.trans (hb.mono hB.size)⟩
theorem tb_new_SI (r : Int) (n : Nat) (hn : n = max 1 (min r.toNat 100)) (w0 w : World) (hb : Below w0.heap.size w0 w) :
    Calls Try.prog 9 #[.int .i64 r] w fun e w' => ∃ b, e = .returned (.pointer (some ⟨b, 0, none⟩)) ∧ Tb 49 w0 w' b n [] := by
  refine (new_SI r n hn w).mono ?_
  rintro e w' ⟨rfl, h, k⟩
  exact ⟨_, rfl, fun _ => False, h, fun _ h => h.elim, hb.size, hb.trans (k.below (B := w0.heap.size) hb.size (fun _ h => h.elim))⟩
section
variable {w0 w : World} {b n : Nat} {l : List T3}
theorem tb_len_SI (h : Tb 49 w0 w b n l) :
    Calls Try.prog 12 #[.pointer (some ⟨b, 0, none⟩)] w fun e w' => e = .returned (.int .i64 l.length) ∧ Tb 49 w0 w' b n l := by
  obtain ⟨o, ht, ho, hb, hB⟩ := h
  refine (len_SI w b n l o ht).mono ?_
  rintro e w' ⟨rfl, rfl⟩
  exact ⟨rfl, o, ht, ho, hb, hB⟩
theorem tb_seen_new_SI (h : Tb 49 w0 w b n l) (hn : n ≤ 1000) (r : Int) (q : Value) (hr : ∀ x ∈ l, x.r ≠ r) :
    Calls Try.prog 11 #[.pointer (some ⟨b, 0, none⟩), .int .i64 r, q] w fun e w' => e = .returned (.tuple #[(.int .i64 0), .int .i64 0]) ∧ Tb 49 w0 w' b n l := by
  obtain ⟨o, ht, h2⟩ := id h
  refine (seen_new_SI w b n l o ht hn r q hr).mono ?_
  rintro e w' ⟨rfl, hb⟩
  exact ⟨rfl, h.below hb⟩
theorem tb_seen_same_SI (h : Tb 49 w0 w b n l) (hn : n ≤ 1000) (r : Int) (xq : ByteArray) (k : Nat) (a : Value) (hx : l[k]? = some ⟨r, .string xq, a⟩) (hb : ∀ j y, j < k → l[j]? = some y → y.r ≠ r) :
    Calls Try.prog 11 #[.pointer (some ⟨b, 0, none⟩), .int .i64 r, .string xq] w fun e w' => e = .returned (.tuple #[a, .int .i64 1]) ∧ Tb 49 w0 w' b n l := by
  obtain ⟨o, ht, h2⟩ := id h
  refine (seen_same_SI w b n l o ht hn r xq k a hx hb).mono ?_
  rintro e w' ⟨rfl, hb⟩
  exact ⟨rfl, h.below hb⟩
theorem tb_seen_other_SI (h : Tb 49 w0 w b n l) (hn : n ≤ 1000) (r : Int) (q xq : ByteArray) (k : Nat) (a : Value) (hq : xq ≠ q) (hx : l[k]? = some ⟨r, .string xq, a⟩) (hb : ∀ j y, j < k → l[j]? = some y → y.r ≠ r) :
    Calls Try.prog 11 #[.pointer (some ⟨b, 0, none⟩), .int .i64 r, .string q] w fun e w' => e = .returned (.tuple #[(.int .i64 0), .int .i64 2]) ∧ Tb 49 w0 w' b n l := by
  obtain ⟨o, ht, h2⟩ := id h
  refine (seen_other_SI w b n l o ht hn r q xq k a hq hx hb).mono ?_
  rintro e w' ⟨rfl, hb⟩
  exact ⟨rfl, h.below hb⟩
theorem tb_tell_low_SI (h : Tb 49 w0 w b n l) (r : Int) (q a : Value) (hr : r < 1) :
    Calls Try.prog 10 #[.pointer (some ⟨b, 0, none⟩), .int .i64 r, q, a] w fun e w' => e = .returned (.bool false) ∧ Tb 49 w0 w' b n l := by
  refine (tell_low_SI w b r q a hr).mono ?_
  rintro e w' ⟨rfl, rfl⟩
  exact ⟨rfl, h⟩
theorem tb_tell_there_SI (h : Tb 49 w0 w b n l) (hn : n ≤ 1000) (r : Int) (q a : Value) (hr : 1 ≤ r) (hx : ∃ x ∈ l, x.r = r) :
    Calls Try.prog 10 #[.pointer (some ⟨b, 0, none⟩), .int .i64 r, q, a] w fun e w' => e = .returned (.bool false) ∧ Tb 49 w0 w' b n l := by
  obtain ⟨o, ht, h2⟩ := id h
  refine (tell_there_SI w b n l o ht hn r q a hr hx).mono ?_
  rintro e w' ⟨rfl, hb⟩
  exact ⟨rfl, h.below hb⟩
theorem tb_tell_ok_SI (h : Tb 49 w0 w b n l) (hn : n ≤ 1000) (r : Int) (q : ByteArray) (a : Int) (hr : 1 ≤ r) (hx : ∀ x ∈ l, x.r ≠ r) :
    Calls Try.prog 10 #[.pointer (some ⟨b, 0, none⟩), .int .i64 r, .string q, .int .i64 a] w fun e w' => e = .returned (.bool true) ∧ Tb 49 w0 w' b n ((l ++ [T3.mk r (.string q) (.int .i64 a)]).drop (l.length + 1 - n)) := by
  obtain ⟨o, ht, ho, hb, hB⟩ := h
  refine (tell_ok_SI w b n l o ht hn r q a hr hx).mono ?_
  rintro e w' ⟨rfl, o', ht', hk, ho'⟩
  exact ⟨rfl, o', ht', fun k h => Nat.le_trans hB.size (ho' k h), hb, hB.trans (hk.below (B := w0.heap.size) hB.size (fun k h => by rcases h with rfl | h; exact hb; exact ho k h))⟩
end
theorem tb_new_IS (r : Int) (n : Nat) (hn : n = max 1 (min r.toNat 100)) (w0 w : World) (hb : Below w0.heap.size w0 w) :
    Calls Try.prog 13 #[.int .i64 r] w fun e w' => ∃ b, e = .returned (.pointer (some ⟨b, 0, none⟩)) ∧ Tb 55 w0 w' b n [] := by
  refine (new_IS r n hn w).mono ?_
  rintro e w' ⟨rfl, h, k⟩
  exact ⟨_, rfl, fun _ => False, h, fun _ h => h.elim, hb.size, hb.trans (k.below (B := w0.heap.size) hb.size (fun _ h => h.elim))⟩
section
variable {w0 w : World} {b n : Nat} {l : List T3}
theorem tb_len_IS (h : Tb 55 w0 w b n l) :
    Calls Try.prog 16 #[.pointer (some ⟨b, 0, none⟩)] w fun e w' => e = .returned (.int .i64 l.length) ∧ Tb 55 w0 w' b n l := by
  obtain ⟨o, ht, ho, hb, hB⟩ := h
  refine (len_IS w b n l o ht).mono ?_
  rintro e w' ⟨rfl, rfl⟩
  exact ⟨rfl, o, ht, ho, hb, hB⟩
theorem tb_seen_new_IS (h : Tb 55 w0 w b n l) (hn : n ≤ 1000) (r : Int) (q : Value) (hr : ∀ x ∈ l, x.r ≠ r) :
    Calls Try.prog 15 #[.pointer (some ⟨b, 0, none⟩), .int .i64 r, q] w fun e w' => e = .returned (.tuple #[(.string ⟨#[]⟩), .int .i64 0]) ∧ Tb 55 w0 w' b n l := by
  obtain ⟨o, ht, h2⟩ := id h
  refine (seen_new_IS w b n l o ht hn r q hr).mono ?_
  rintro e w' ⟨rfl, hb⟩
  exact ⟨rfl, h.below hb⟩
theorem tb_seen_same_IS (h : Tb 55 w0 w b n l) (hn : n ≤ 1000) (r : Int) (xq : Int) (k : Nat) (a : Value) (hx : l[k]? = some ⟨r, .int .i64 xq, a⟩) (hb : ∀ j y, j < k → l[j]? = some y → y.r ≠ r) :
    Calls Try.prog 15 #[.pointer (some ⟨b, 0, none⟩), .int .i64 r, .int .i64 xq] w fun e w' => e = .returned (.tuple #[a, .int .i64 1]) ∧ Tb 55 w0 w' b n l := by
  obtain ⟨o, ht, h2⟩ := id h
  refine (seen_same_IS w b n l o ht hn r xq k a hx hb).mono ?_
  rintro e w' ⟨rfl, hb⟩
  exact ⟨rfl, h.below hb⟩
theorem tb_seen_other_IS (h : Tb 55 w0 w b n l) (hn : n ≤ 1000) (r : Int) (q xq : Int) (k : Nat) (a : Value) (hq : xq ≠ q) (hx : l[k]? = some ⟨r, .int .i64 xq, a⟩) (hb : ∀ j y, j < k → l[j]? = some y → y.r ≠ r) :
    Calls Try.prog 15 #[.pointer (some ⟨b, 0, none⟩), .int .i64 r, .int .i64 q] w fun e w' => e = .returned (.tuple #[(.string ⟨#[]⟩), .int .i64 2]) ∧ Tb 55 w0 w' b n l := by
  obtain ⟨o, ht, h2⟩ := id h
  refine (seen_other_IS w b n l o ht hn r q xq k a hq hx hb).mono ?_
  rintro e w' ⟨rfl, hb⟩
  exact ⟨rfl, h.below hb⟩
theorem tb_tell_low_IS (h : Tb 55 w0 w b n l) (r : Int) (q a : Value) (hr : r < 1) :
    Calls Try.prog 14 #[.pointer (some ⟨b, 0, none⟩), .int .i64 r, q, a] w fun e w' => e = .returned (.bool false) ∧ Tb 55 w0 w' b n l := by
  refine (tell_low_IS w b r q a hr).mono ?_
  rintro e w' ⟨rfl, rfl⟩
  exact ⟨rfl, h⟩
theorem tb_tell_there_IS (h : Tb 55 w0 w b n l) (hn : n ≤ 1000) (r : Int) (q a : Value) (hr : 1 ≤ r) (hx : ∃ x ∈ l, x.r = r) :
    Calls Try.prog 14 #[.pointer (some ⟨b, 0, none⟩), .int .i64 r, q, a] w fun e w' => e = .returned (.bool false) ∧ Tb 55 w0 w' b n l := by
  obtain ⟨o, ht, h2⟩ := id h
  refine (tell_there_IS w b n l o ht hn r q a hr hx).mono ?_
  rintro e w' ⟨rfl, hb⟩
  exact ⟨rfl, h.below hb⟩
theorem tb_tell_ok_IS (h : Tb 55 w0 w b n l) (hn : n ≤ 1000) (r : Int) (q : Int) (a : ByteArray) (hr : 1 ≤ r) (hx : ∀ x ∈ l, x.r ≠ r) :
    Calls Try.prog 14 #[.pointer (some ⟨b, 0, none⟩), .int .i64 r, .int .i64 q, .string a] w fun e w' => e = .returned (.bool true) ∧ Tb 55 w0 w' b n ((l ++ [T3.mk r (.int .i64 q) (.string a)]).drop (l.length + 1 - n)) := by
  obtain ⟨o, ht, ho, hb, hB⟩ := h
  refine (tell_ok_IS w b n l o ht hn r q a hr hx).mono ?_
  rintro e w' ⟨rfl, o', ht', hk, ho'⟩
  exact ⟨rfl, o', ht', fun k h => Nat.le_trans hB.size (ho' k h), hb, hB.trans (hk.below (B := w0.heap.size) hB.size (fun k h => by rcases h with rfl | h; exact hb; exact ho k h))⟩
end
end Go.Proofs.Ytooknplhfimieaa

/- HatchOrder returns true. Conditions: none. -/
import Derived.Test.YtbfldeeggbnhiaaBegun
namespace Go.Proofs.Ytbfldeeggbnhiaa
open Go.RowKit Go.Mem
def FL (F : Nat → Bool) (k : Nat) : List Value := ((List.range k).filter F).map (fun i : Nat => .int .i64 i)
def SL (F : Nat → Bool) (k : Nat) : List Value := FL (fun i => !F i) k
theorem FL_true {F : Nat → Bool} {k : Nat} (h : F k = true) : FL F (k + 1) = FL F k ++ [.int .i64 k] := by simp [FL, List.range_succ, h]
theorem FL_false {F : Nat → Bool} {k : Nat} (h : F k = false) : FL F (k + 1) = FL F k := by simp [FL, List.range_succ, h]
theorem SL_true {F : Nat → Bool} {k : Nat} (h : F k = true) : SL F (k + 1) = SL F k := FL_false (by simp [h])
theorem SL_false {F : Nat → Bool} {k : Nat} (h : F k = false) : SL F (k + 1) = SL F k ++ [.int .i64 k] := FL_true (by simp [h])
theorem FL_len (F : Nat → Bool) (k : Nat) : (FL F k).length ≤ k := by
  have := List.length_filter_le F (List.range k)
  simpa [FL] using this
theorem SL_len (F : Nat → Bool) (k : Nat) : (SL F k).length ≤ k := FL_len _ k
theorem FL_one (F : Nat → Bool) (k : Nat) : ∀ u ∈ FL F k, ∃ i : Nat, u = .int .i64 i := by
  intro u hu
  simp only [FL, List.mem_map] at hu
  obtain ⟨i, _, rfl⟩ := hu
  exact ⟨i, rfl⟩

/-- The hatch and the two lists, side by side. -/
structure Two (w wr : World) (B2 : Nat) (p : HatP) (fs ss : List Value) (l : Nat) (af : Option Addr) (nf cf : Nat) (aS : Option Addr) (ns cs : Nat) : Prop where
  hat : Hat wr p fs ss l
  bel : Below w.heap.size w wr
  siz : w.heap.size ≤ B2 ∧ B2 ≤ wr.heap.size
  slf : Sl wr 3 1 af nf cf fs
  sls : Sl wr 3 1 aS ns cs ss
  of : ∀ x, ownedBy af cf x → B2 ≤ x ∧ ¬ ownedBy aS cs x
  os : ∀ x, ownedBy aS cs x → B2 ≤ x
  hp : ∀ x, p.has x → w.heap.size ≤ x ∧ x < B2
theorem Two.lenf {w wr : World} {B2 : Nat} {p : HatP} {fs ss : List Value} {l : Nat} {af : Option Addr} {nf cf : Nat} {aS : Option Addr} {ns cs : Nat} (h : Two w wr B2 p fs ss l af nf cf aS ns cs) : fs.length = nf := by simpa using h.slf.1
theorem Two.lens {w wr : World} {B2 : Nat} {p : HatP} {fs ss : List Value} {l : Nat} {af : Option Addr} {nf cf : Nat} {aS : Option Addr} {ns cs : Nat} (h : Two w wr B2 p fs ss l af nf cf aS ns cs) : ss.length = ns := by simpa using h.sls.1
/-- What a method of the hatch leaves of the lists. -/
theorem Two.call {w wr w3 : World} {B2 : Nat} {p : HatP} {fs ss : List Value} {l : Nat} {af : Option Addr} {nf cf : Nat} {aS : Option Addr} {ns cs : Nat} (h : Two w wr B2 p fs ss l af nf cf aS ns cs)
    (hk : Kept p.has wr w3) : Below w.heap.size w w3 ∧ (w.heap.size ≤ B2 ∧ B2 ≤ w3.heap.size) ∧ Sl w3 3 1 af nf cf fs ∧ Sl w3 3 1 aS ns cs ss :=
  ⟨h.bel.trans (hk.below (B := w.heap.size) h.bel.size (fun k hp => (h.hp k hp).1)), ⟨h.siz.1, Nat.le_trans h.siz.2 hk.size⟩,
    h.slf.kept hk (fun x hx hp => by have := (h.of x hx).1; have := (h.hp x hp).2; omega), h.sls.kept hk (fun x hx hp => by have := h.os x hx; have := (h.hp x hp).2; omega)⟩
/-- The hatch did something, and an append to the fast list followed. -/
theorem Two.growf {w wr w3 w5 : World} {B2 : Nat} {p : HatP} {fs ss fs' : List Value} {l l' : Nat} {af : Option Addr} {nf cf : Nat} {aS : Option Addr} {ns cs : Nat} (h : Two w wr B2 p fs ss l af nf cf aS ns cs)
    (h3 : Hat w3 p fs' ss l') (hk : Kept p.has wr w3) {o : Obj} {af' : Option Addr} {nf' cf' : Nat} (hs : Sl w5 3 1 af' nf' cf' fs') (hk5 : Kept (ownedBy af cf) (w3.alloc o) w5) (ho : ∀ k, ownedBy af' cf' k → ownedBy af cf k ∨ k = (w3.alloc o).heap.size) :
    Two w w5 B2 p fs' ss l' af' nf' cf' aS ns cs := by
  obtain ⟨b3, z3, f3, s3⟩ := h.call hk
  have k35 : Kept (ownedBy af cf) w3 w5 := ((Kept.refl _ w3).alloc o).trans hk5
  have hz := k35.size
  refine ⟨h3.kept k35 (fun x hp hx => by have := (h.of x hx).1; have := (h.hp x hp).2; omega), b3.trans (k35.below (B := w.heap.size) b3.size (fun x hx => by have := (h.of x hx).1; omega)), ⟨z3.1, by omega⟩, hs, s3.kept k35 (fun x hx hf => (h.of x hf).2 hx), fun x hx => ?_, h.os, h.hp⟩
  rcases ho x hx with h1 | h1
  · exact h.of x h1
  · refine ⟨by rw [h1]; simp; omega, fun hx2 => ?_⟩
    have := s3.owns hx2
    rw [h1] at this
    simp at this; omega
theorem Two.grows {w wr w3 w5 : World} {B2 : Nat} {p : HatP} {fs ss ss' : List Value} {l l' : Nat} {af : Option Addr} {nf cf : Nat} {aS : Option Addr} {ns cs : Nat} (h : Two w wr B2 p fs ss l af nf cf aS ns cs)
    (h3 : Hat w3 p fs ss' l') (hk : Kept p.has wr w3) {o : Obj} {aS' : Option Addr} {ns' cs' : Nat} (hs : Sl w5 3 1 aS' ns' cs' ss') (hk5 : Kept (ownedBy aS cs) (w3.alloc o) w5) (ho : ∀ k, ownedBy aS' cs' k → ownedBy aS cs k ∨ k = (w3.alloc o).heap.size) :
    Two w w5 B2 p fs ss' l' af nf cf aS' ns' cs' := by
  obtain ⟨b3, z3, f3, s3⟩ := h.call hk
  have k35 : Kept (ownedBy aS cs) w3 w5 := ((Kept.refl _ w3).alloc o).trans hk5
  have hz := k35.size
  refine ⟨h3.kept k35 (fun x hp hx => by have := h.os x hx; have := (h.hp x hp).2; omega), b3.trans (k35.below (B := w.heap.size) b3.size (fun x hx => by have := h.os x hx; omega)), ⟨z3.1, by omega⟩, f3.kept k35 (fun x hx hf => (h.of x hx).2 hf), hs, fun x hx => ⟨(h.of x hx).1, fun hx2 => ?_⟩, fun x hx => ?_, h.hp⟩
  · rcases ho x hx2 with h1 | h1
    · exact (h.of x hx).2 h1
    · have := f3.owns hx
      rw [h1] at this
      simp at this; omega
  · rcases ho x hx with h1 | h1
    · exact h.os x h1
    · rw [h1]; simp; omega
theorem drop_at {l : List Value} {j : Nat} {u : Value} (h : l[j]? = some u) : l.drop j = u :: l.drop (j + 1) := by
  obtain ⟨hj, rfl⟩ := List.getElem?_eq_some_iff.1 h
  exact List.drop_eq_getElem_cons hj
theorem FL_at (F : Nat → Bool) (k j : Nat) (h : j < (FL F k).length) : ∃ i : Nat, (FL F k)[j]? = some (.int .i64 i) := by
  obtain ⟨i, hi⟩ := FL_one F k (FL F k)[j] (List.getElem_mem h)
  exact ⟨i, by rw [List.getElem?_eq_getElem h, hi]⟩
theorem info3 : (Try.prog.info? 3).map (fun i => (i.zero, i.size, i.bytes)) = some (some (.int .i64 0), 1, 8) := by kernel_rfl

set_option maxHeartbeats 2000000 in
theorem hatchOrder_main (a0 : Option Addr) (len cap : Nat) (F : Nat → Bool) (w : World) (hA : Arg1 w a0 len (fun k => .bool (F k))) :
    Calls Try.prog 7 #[.slice a0 len cap] w fun e w' => e = .returned (.bool true) ∧ Below w.heap.size w w' := by
  have HN := Lib.hid (fun w => new_int 64 64 (by decide) w)
  have hm := hA.1
  unfold maxLen at hm
  have HA := Lib.hid hA
  obtain ⟨i0, hi, hz0, hz1, hz2⟩ := info_parts info3
  have HI := Lib.hid hi
  have HZ0 := Lib.hid hz0
  have HZ1 := Lib.hid hz1
  have HZ2 := Lib.hid hz2
  clear hA hi hz0 hz1 hz2
  go_enter Try.func7, Try.ntmps7
  go_wp2_with (go_at_call 9; refine (begun_true _).mono ?_; rintro e w1 ⟨rfl, B1⟩; have HB := Lib.hid B1; clear B1)
  refine (HN.out _).mono ?_
  rintro e w2 ⟨p, rfl, hn, h1, k1, hp⟩
  have T2 : Hid (Two w w2 w2.heap.size p (FL F 0) (SL F 0) 0 none 0 0 none 0 0) := Lib.hid (by
    have hb := HB.out.trans (k1.below (B := w.heap.size) HB.out.size (fun _ h => h.elim))
    exact ⟨h1, hb, ⟨hb.size, Nat.le_refl _⟩, Sl.nil _ _ _, Sl.nil _ _ _, fun x hx => absurd hx.1 (by omega), fun x hx => absurd hx.1 (by omega), fun x hx => ⟨Nat.le_trans HB.out.size (hp x hx), by rcases hx with rfl | rfl | rfl; exact h1.b; exact h1.c1; exact h1.c2⟩⟩)
  have HPN := Lib.hid hn
  generalize hB2 : w2.heap.size = B2 at T2
  clear hn h1 k1 hp HN HB hB2
  go_wp2
  go_loopw [5, 6, 7] (fun vf vs i wr => ∃ (k : Nat) (af : Option Addr) (nf cf : Nat) (aS : Option Addr) (ns cs : Nat), k ≤ len ∧ k ≤ 60 ∧ i = .int .i64 k ∧ vf = .slice af nf cf ∧ vs = .slice aS ns cs ∧ Hid (Two w wr B2 p (FL F k) (SL F k) 0 af nf cf aS ns cs)) (fun _ _ i _ => 60 - (intOf i).toNat)
  case atStart => exact ⟨0, none, 0, 0, none, 0, 0, Nat.zero_le _, Nat.zero_le _, rfl, rfl, rfl, T2⟩
  case round =>
    obtain ⟨k, af, nf, cf, aS, ns, cs, hk, hk6, rfl, rfl, rfl, hT⟩ := hrel
    have hnf : nf ≤ 60 := by have := hT.out.lenf; have := FL_len F k; omega
    have hns : ns ≤ 60 := by have := hT.out.lens; have := SL_len F k; omega
    by_cases hlt : k < len ∧ k < 60
    · obtain ⟨hl1, hl2⟩ := hlt
      obtain ⟨b, off, rfl, hbl, hc⟩ := HA.out.2 (by omega)
      have hck : wr.cell? ⟨b, off + k, none⟩ = some (.bool (F k)) := (hT.out.bel.cell (p := ⟨b, off + k, none⟩) hbl).trans (hc k hl1)
      clear hc
      rcases hF : F k with _ | _
      · rw [hF] at hck
        have HF := Lib.hid hF
        clear hF
        go_wp2_with fail
        refine (slow_ok_int (.int .i64 k) _ p _ _ _ hT.out.hat (by rw [HPN.out]; have := SL_len F k; omega)).mono ?_
        rintro e w3 ⟨rfl, h3, k3⟩
        have H3 := Lib.hid h3
        have K3 := Lib.hid k3
        have HS : Hid (Sl (w3.alloc (.cells #[.int .i64 k] 3)) 3 1 aS ns cs (SL F k)) := Lib.hid ((hT.out.call k3).2.2.2.kept ((Kept.refl (fun _ => False) w3).alloc _) (fun _ _ h => h))
        clear h3 k3
        go_wp2_with (at_builtin; go_must (refine wpList_append_sl _ rfl _ _ 22 22 rfl 3 i0 (.int .i64 0) 1 8 Try.underlying22 HI.out HZ0.out HZ1.out HZ2.out rfl aS ns cs _ HS.out rfl _ rfl 1 [.int .i64 k] (srcOne w3 Try.underlying22 (.int .i64 k) rfl 3) (by simp only [maxLen]; omega) (by omega) ?_); intro ao' cap' w5 hSl hKe hown; have HSL := Lib.hid hSl; have HKE := Lib.hid hKe; have HOW := Lib.hid hown; clear hSl hKe hown)
        go_roundw
        case rel => exact ⟨k + 1, af, nf, cf, ao', ns + 1, cap', by omega, by omega, by go_num, rfl, rfl, Lib.hid (by rw [FL_false HF.out, SL_false HF.out]; exact hT.out.grows H3.out K3.out HSL.out HKE.out HOW.out)⟩
        case measure => simp [intOf]; omega
      · rw [hF] at hck
        have HF := Lib.hid hF
        clear hF
        go_wp2_with fail
        refine (fast_ok_int (.int .i64 k) _ p _ _ _ hT.out.hat (by rw [HPN.out]; have := FL_len F k; omega)).mono ?_
        rintro e w3 ⟨rfl, h3, k3⟩
        have H3 := Lib.hid h3
        have K3 := Lib.hid k3
        have HS : Hid (Sl (w3.alloc (.cells #[.int .i64 k] 3)) 3 1 af nf cf (FL F k)) := Lib.hid ((hT.out.call k3).2.2.1.kept ((Kept.refl (fun _ => False) w3).alloc _) (fun _ _ h => h))
        clear h3 k3
        go_wp2_with (at_builtin; go_must (refine wpList_append_sl _ rfl _ _ 22 22 rfl 3 i0 (.int .i64 0) 1 8 Try.underlying22 HI.out HZ0.out HZ1.out HZ2.out rfl af nf cf _ HS.out rfl _ rfl 1 [.int .i64 k] (srcOne w3 Try.underlying22 (.int .i64 k) rfl 3) (by simp only [maxLen]; omega) (by omega) ?_); intro ao' cap' w5 hSl hKe hown; have HSL := Lib.hid hSl; have HKE := Lib.hid hKe; have HOW := Lib.hid hown; clear hSl hKe hown)
        go_roundw
        case rel => exact ⟨k + 1, ao', nf + 1, cap', aS, ns, cs, by omega, by omega, by go_num, rfl, rfl, Lib.hid (by rw [FL_true HF.out, SL_true HF.out]; exact hT.out.growf H3.out K3.out HSL.out HKE.out HOW.out)⟩
        case measure => simp [intOf]; omega
    · have hlf := hT.out.lenf
      have hls := hT.out.lens
      have HLF := Lib.hid hlf
      have HLS := Lib.hid hls
      clear hlf hls
      have hor : len ≤ k ∨ (k < len ∧ 60 ≤ k) := by omega
      rcases hor with hl1 | ⟨hl1, hl2⟩
      all_goals
        clear hlt
        go_wp2_with (at_builtin; go_must (refine wpList_append_sl _ rfl _ _ 22 22 rfl 3 i0 (.int .i64 0) 1 8 Try.underlying22 HI.out HZ0.out HZ1.out HZ2.out rfl af nf cf _ hT.out.slf rfl _ rfl ns (SL F k) (hT.out.sls.src Try.underlying22 (fun u hu => by obtain ⟨_, rfl⟩ := FL_one _ _ u hu; rfl)) (by simp only [maxLen]; omega) (by omega) ?_); intro ao' cap' w5 hSl hKe hown; have HSL := Lib.hid hSl; have HKE := Lib.hid hKe; have HOW := Lib.hid hown; clear hSl hKe hown)
        have H5 : Hid (Hat w5 p ((FL F k).drop 0) ((SL F k).drop (0 - nf)) 0) := Lib.hid (by simpa using hT.out.hat.kept HKE.out (fun x hp hx => by have := (hT.out.of x hx).1; have := (hT.out.hp x hp).2; omega))
        have B5 : Hid (Below w.heap.size w w5) := Lib.hid (hT.out.bel.trans (HKE.out.below (B := w.heap.size) hT.out.bel.size (fun x hx => by have := (hT.out.of x hx).1; have := hT.out.siz.1; omega)))
        have HQ : Hid (∀ x, ownedBy ao' cap' x → ¬ p.has x) := Lib.hid (fun x hx hp => by
          have h1 := (hT.out.hp x hp).2
          rcases HOW.out x hx with h2 | h2
          · have := (hT.out.of x h2).1; omega
          · have := hT.out.siz.2; omega)
        have HPW : Hid (∀ x, p.has x → w.heap.size ≤ x) := Lib.hid (fun x hp => (hT.out.hp x hp).1)
        clear HKE HOW hT
        go_loopw [9] (fun i wr => ∃ j : Nat, j ≤ nf + ns ∧ i = .int .i64 j ∧ Hid (Hat wr p ((FL F k).drop j) ((SL F k).drop (j - nf)) 0) ∧ Hid (Sl wr 3 1 ao' (nf + ns) cap' (FL F k ++ SL F k)) ∧ Hid (Below w.heap.size w wr)) (fun i _ => nf + ns - (intOf i).toNat)
        case atStart => exact ⟨0, Nat.zero_le _, rfl, H5, HSL, B5⟩
        case round =>
          obtain ⟨j, hj, rfl, hH, hS, hB⟩ := hrel
          by_cases hjn : j < nf + ns
          · go_wp2_with fail
            by_cases hjf : j < nf
            · obtain ⟨q, hq⟩ := FL_at F k j (by rw [HLF.out]; exact hjf)
              have hall : (FL F k ++ SL F k)[j]? = some (.int .i64 q) := by rw [List.getElem?_append_left (by rw [HLF.out]; exact hjf)]; exact hq
              have hH2 := hH.out
              rw [drop_at hq] at hH2
              refine (takef_int (.int .i64 q) _ p _ _ _ hH2).mono ?_
              rintro e w3 ⟨rfl, h3, k3⟩
              obtain ⟨g, off, rfl, hcell, _⟩ := (hS.out.kept k3 HQ.out).cell hjn
              rw [hall] at hcell
              have H3 : Hid (Hat w3 p ((FL F k).drop (j + 1)) ((SL F k).drop (j + 1 - nf)) 0) := Lib.hid (by rw [show j + 1 - nf = j - nf from by omega]; exact h3)
              have S3 := Lib.hid (hS.out.kept k3 HQ.out)
              have B3 := Lib.hid (hB.out.trans (k3.below (B := w.heap.size) hB.out.size HPW.out))
              clear h3 k3 hH2 hq hall hH hS hB
              go_wp2
              go_roundw
              case rel => exact ⟨j + 1, by omega, by go_num, H3, S3, B3⟩
              case measure => simp [intOf]; omega
            · obtain ⟨q, hq⟩ := FL_at (fun i => !F i) k (j - nf) (by have := HLS.out; unfold SL at this; omega)
              have hall : (FL F k ++ SL F k)[j]? = some (.int .i64 q) := by rw [List.getElem?_append_right (by rw [HLF.out]; omega), HLF.out]; exact hq
              have hH2 := hH.out
              rw [drop_at (l := SL F k) hq, List.drop_eq_nil_of_le (by rw [HLF.out]; omega)] at hH2
              refine (takes_int (.int .i64 q) _ p _ _ hH2).mono ?_
              rintro e w3 ⟨rfl, h3, k3⟩
              obtain ⟨g, off, rfl, hcell, _⟩ := (hS.out.kept k3 HQ.out).cell hjn
              rw [hall] at hcell
              have H3 : Hid (Hat w3 p ((FL F k).drop (j + 1)) ((SL F k).drop (j + 1 - nf)) 0) := Lib.hid (by rw [show j + 1 - nf = j - nf + 1 from by omega, List.drop_eq_nil_of_le (by rw [HLF.out]; omega)]; exact h3)
              have S3 := Lib.hid (hS.out.kept k3 HQ.out)
              have B3 := Lib.hid (hB.out.trans (k3.below (B := w.heap.size) hB.out.size HPW.out))
              clear h3 k3 hH2 hq hall hH hS hB
              go_wp2
              go_roundw
              case rel => exact ⟨j + 1, by omega, by go_num, H3, S3, B3⟩
              case measure => simp [intOf]; omega
          · go_wp2_with fail
            have hH2 := hH.out
            rw [List.drop_eq_nil_of_le (by rw [HLF.out]; omega), List.drop_eq_nil_of_le (by rw [HLS.out]; omega)] at hH2
            refine (take0_int _ p _ hH2).mono ?_
            rintro e w3 ⟨rfl, h3, k3⟩
            have B3 := Lib.hid (hB.out.trans (k3.below (B := w.heap.size) hB.out.size HPW.out))
            clear h3 k3 hH2
            go_wp2
            go_ret
            exact ⟨rfl, B3.out⟩
end Go.Proofs.Ytbfldeeggbnhiaa

/- HatchFull returns true. Conditions: none. -/
import Derived.Test.YtbfldeeggbnhiaaBegun
namespace Go.Proofs.Ytbfldeeggbnhiaa
open Go.RowKit Go.Mem
def reps (v : Value) (m : Nat) : List Value := List.replicate m v
theorem reps_len (v : Value) (m : Nat) : (reps v m).length = m := by simp [reps]
theorem reps_snoc (v : Value) (m : Nat) : reps v m ++ [v] = reps v (m + 1) := by simp [reps, List.replicate_succ']
theorem reps_cons (v : Value) (m : Nat) : v :: reps v m = reps v (m + 1) := by simp [reps, List.replicate_succ]

set_option maxHeartbeats 1000000 in
theorem hatchFull_main (r : Int) (n : Nat) (A B : Nat) (hA : A ≤ 80) (hB : B ≤ 80) (hn : n = max 1 (min r.toNat 64)) (w : World) :
    Calls Try.prog 5 #[.int .i64 r, .int .i64 A, .int .i64 B] w fun e w' => e = .returned (.bool true) ∧ Below w.heap.size w w' := by
  have HN := Lib.hid (fun w => new_bool r n hn w)
  have hn1 : 1 ≤ n := by omega
  have hn2 : n ≤ 64 := by omega
  obtain ⟨R, hR⟩ : ∃ R : Int, R = (if (64 : Int) < r then 64 else r) := ⟨_, rfl⟩
  have hRn : (if R < 1 then 1 else R) = (n : Int) := by rw [hR]; omega
  have hmin : ∀ (w : World) ts t, (Builtin.min_ ts t #[.int .i64 r, .int .i64 64]).run Try.prog w = .ok (.int .i64 R) w := fun w ts t => by rw [run_min_int2, hR]
  have hmax : ∀ (w : World) ts t, (Builtin.max_ ts t #[.int .i64 1, .int .i64 R]).run Try.prog w = .ok (.int .i64 n) w := fun w ts t => by rw [run_max_int2, ← hRn]; congr 2; split <;> split <;> omega
  clear hn hR hRn
  have dA : decide ((A : Int) < 0) = false := by simp
  have dA' : decide ((80 : Int) < A) = false := by simp; omega
  have dB : decide ((B : Int) < 0) = false := by simp
  have dB' : decide ((80 : Int) < B) = false := by simp; omega
  · go_enter Try.func5, Try.ntmps5
    go_wp2_with (go_at_call 9; refine (begun_true _).mono ?_; rintro e w1 ⟨rfl, B1⟩; have HB := Lib.hid B1; clear B1)
    refine (HN.out _).mono ?_
    rintro e w2 ⟨p, rfl, hn, h1, k1, hp⟩
    have H1 := Lib.hid h1
    have HB2 := Lib.hid (HB.out.trans (k1.below (B := w.heap.size) HB.out.size (fun _ h => h.elim)))
    have HP := Lib.hid (fun k hk => Nat.le_trans HB.out.size (hp k hk))
    have HPN := Lib.hid hn
    clear hn h1 k1 hp HN HB
    go_wp2
    clear hmin hmax
    go_loopw [10] (fun i wr => ∃ k : Nat, k ≤ A ∧ i = .int .i64 k ∧ Hid (Hat wr p (reps (.bool true) (min k n)) [] (k - n)) ∧ Hid (Below w.heap.size w wr)) (fun i _ => A - (intOf i).toNat)
    case atStart => exact ⟨0, Nat.zero_le _, rfl, Lib.hid (by simpa [reps] using H1.out), HB2⟩
    case round =>
      obtain ⟨k, hk, rfl, hH, hB2⟩ := hrel
      by_cases hlt : k < A
      · by_cases hkn : k < n
        · have dk : decide ((k : Int) < n) = true := by simp; omega
          go_wp2_with fail
          refine (fast_ok_bool (.bool true) _ p _ _ _ hH.out (by rw [HPN.out, reps_len]; omega)).mono ?_
          rintro e w3 ⟨rfl, h3, k3⟩
          have H3 := Lib.hid h3
          have B3 := Lib.hid (hB2.out.trans (k3.below (B := w.heap.size) hB2.out.size HP.out))
          clear h3 k3
          go_wp2
          go_roundw
          case rel => exact ⟨k + 1, by omega, by go_num, Lib.hid (by have := H3.out; rw [reps_snoc] at this; rw [show min (k + 1) n = min k n + 1 from by omega, show k + 1 - n = k - n from by omega]; exact this), B3⟩
          case measure => simp [intOf]; omega
        · have dk : decide ((k : Int) < n) = false := by simp; omega
          go_wp2_with fail
          refine (fast_full_bool (.bool true) _ p _ _ _ hH.out (by rw [HPN.out, reps_len]; omega) (by omega)).mono ?_
          rintro e w3 ⟨rfl, h3, k3⟩
          have H3 := Lib.hid h3
          have B3 := Lib.hid (hB2.out.trans (k3.below (B := w.heap.size) hB2.out.size HP.out))
          clear h3 k3
          go_wp2
          go_roundw
          case rel => exact ⟨k + 1, by omega, by go_num, Lib.hid (by have := H3.out; rw [show min (k + 1) n = min k n from by omega, show k + 1 - n = k - n + 1 from by omega]; exact this), B3⟩
          case measure => simp [intOf]; omega
      · obtain rfl : k = A := by omega
        go_wp2
        go_loopw [11] (fun i wr => ∃ j : Nat, j ≤ B ∧ i = .int .i64 j ∧ Hid (Hat wr p (reps (.bool true) (min k n)) (reps (.bool false) (min j n)) (k - n + (j - n))) ∧ Hid (Below w.heap.size w wr)) (fun i _ => B - (intOf i).toNat)
        case atStart => exact ⟨0, Nat.zero_le _, rfl, Lib.hid (by simpa [reps] using hH.out), hB2⟩
        case round =>
          obtain ⟨j, hj, rfl, hH, hB2⟩ := hrel
          by_cases hlt : j < B
          · by_cases hkn : j < n
            · have dk : decide ((j : Int) < n) = true := by simp; omega
              go_wp2_with fail
              refine (slow_ok_bool (.bool false) _ p _ _ _ hH.out (by rw [HPN.out, reps_len]; omega)).mono ?_
              rintro e w3 ⟨rfl, h3, k3⟩
              have H3 := Lib.hid h3
              have B3 := Lib.hid (hB2.out.trans (k3.below (B := w.heap.size) hB2.out.size HP.out))
              clear h3 k3
              go_wp2
              go_roundw
              case rel => exact ⟨j + 1, by omega, by go_num, Lib.hid (by have := H3.out; rw [reps_snoc] at this; rw [show min (j + 1) n = min j n + 1 from by omega, show j + 1 - n = j - n from by omega]; exact this), B3⟩
              case measure => simp [intOf]; omega
            · have dk : decide ((j : Int) < n) = false := by simp; omega
              go_wp2_with fail
              refine (slow_full_bool (.bool false) _ p _ _ _ hH.out (by rw [HPN.out, reps_len]; omega) (by omega)).mono ?_
              rintro e w3 ⟨rfl, h3, k3⟩
              have H3 := Lib.hid h3
              have B3 := Lib.hid (hB2.out.trans (k3.below (B := w.heap.size) hB2.out.size HP.out))
              clear h3 k3
              go_wp2
              go_roundw
              case rel => exact ⟨j + 1, by omega, by go_num, Lib.hid (by have := H3.out; rw [show min (j + 1) n = min j n from by omega, show k - n + (j + 1 - n) = k - n + (j - n) + 1 from by omega]; exact this), B3⟩
              case measure => simp [intOf]; omega
          · obtain rfl : j = B := by omega
            go_wp2_with fail
            refine (len_bool _ p _ _ _ hH.out).mono ?_
            rw [reps_len, reps_len]
            rintro e w3 ⟨rfl, h3, k3⟩
            have H3 := Lib.hid h3
            have B3 := Lib.hid (hB2.out.trans (k3.below (B := w.heap.size) hB2.out.size HP.out))
            clear h3 k3
            obtain ⟨ma, hma⟩ : ∃ ma, ma = min k n := ⟨_, rfl⟩
            obtain ⟨mb, hmb⟩ : ∃ mb, mb = min j n := ⟨_, rfl⟩
            obtain ⟨la, hla⟩ : ∃ la, la = k - n := ⟨_, rfl⟩
            obtain ⟨lb, hlb⟩ : ∃ lb, lb = j - n := ⟨_, rfl⟩
            rw [← hma, ← hmb]
            rw [← hma, ← hmb, ← hla, ← hlb] at H3
            have m1 : ∀ (w : World) ts t, (Builtin.min_ ts t #[.int .i64 k, .int .i64 n]).run Try.prog w = .ok (.int .i64 ma) w := fun w ts t => by rw [run_min_int2, hma]; congr 2; split <;> omega
            have m2 : ∀ (w : World) ts t, (Builtin.min_ ts t #[.int .i64 j, .int .i64 n]).run Try.prog w = .ok (.int .i64 mb) w := fun w ts t => by rw [run_min_int2, hmb]; congr 2; split <;> omega
            have m3 : ∀ (w : World) ts t, (Builtin.max_ ts t #[.int .i64 0, .int .i64 ((k : Int) - n)]).run Try.prog w = .ok (.int .i64 la) w := fun w ts t => by rw [run_max_int2, hla]; congr 2; split <;> omega
            have m4 : ∀ (w : World) ts t, (Builtin.max_ ts t #[.int .i64 0, .int .i64 ((j : Int) - n)]).run Try.prog w = .ok (.int .i64 lb) w := fun w ts t => by rw [run_max_int2, hlb]; congr 2; split <;> omega
            have hma' : ma ≤ 80 := by omega
            have hla' : la ≤ 80 := by omega
            have hlb' : lb ≤ 80 := by omega
            have hbz : (j = 0 ∧ mb = 0) ∨ (0 < j ∧ 0 < mb) := by omega
            clear hma hmb hla hlb
            go_wp2
            go_loopw [14] (fun i wr => ∃ q : Nat, q ≤ ma ∧ i = .int .i64 q ∧ Hid (Hat wr p (reps (.bool true) (ma - q)) (reps (.bool false) mb) (la + lb)) ∧ Hid (Below w.heap.size w wr)) (fun i _ => ma - (intOf i).toNat)
            case atStart => exact ⟨0, Nat.zero_le _, rfl, H3, B3⟩
            case round =>
              obtain ⟨q, hq, rfl, hH, hB2⟩ := hrel
              by_cases hlt : q < ma
              · have hH2 : Hid (Hat wr p (.bool true :: reps (.bool true) (ma - (q + 1))) (reps (.bool false) mb) (la + lb)) := Lib.hid (by have := hH.out; rw [reps_cons, show ma - (q + 1) + 1 = ma - q from by omega]; exact this)
                go_wp2_with fail
                refine (takef_bool (.bool true) _ p _ _ _ hH2.out).mono ?_
                rintro e w3 ⟨rfl, h3, k3⟩
                have H3 := Lib.hid h3
                have B3 := Lib.hid (hB2.out.trans (k3.below (B := w.heap.size) hB2.out.size HP.out))
                clear h3 k3
                go_wp2
                go_roundw
                case rel => exact ⟨q + 1, by omega, by go_num, H3, B3⟩
                case measure => simp [intOf]; omega
              · have hH2 : Hid (Hat wr p [] (reps (.bool false) mb) (la + lb)) := Lib.hid (by have := hH.out; rw [show ma - q = 0 from by omega] at this; exact this)
                clear hH
                go_wp2_with fail
                rcases hbz with ⟨hj0, hb0⟩ | ⟨hj0, hb0⟩
                · have hH3 : Hid (Hat wr p [] [] (la + lb)) := Lib.hid (by have := hH2.out; rw [hb0] at this; exact this)
                  have hd : decide (0 < j) = false := by simp; omega
                  clear hH2 hb0
                  have Hj0 := Lib.hid hj0
                  clear hj0
                  refine (take0_bool _ p _ hH3.out).mono ?_
                  rintro e w3 ⟨rfl, h3, k3⟩
                  have H3 := Lib.hid h3
                  have B3 := Lib.hid (hB2.out.trans (k3.below (B := w.heap.size) hB2.out.size HP.out))
                  clear h3 k3
                  go_wp2_with fail
                  refine (lost_bool _ p _ _ _ H3.out).mono ?_
                  rintro e w4 ⟨rfl, rfl⟩
                  go_wp2
                  go_ret
                  exact ⟨rfl, B3.out⟩
                · obtain ⟨mc, rfl⟩ : ∃ mc, mb = mc + 1 := ⟨mb - 1, by omega⟩
                  have hd : decide (0 < j) = true := by simp; omega
                  have hH3 : Hid (Hat wr p [] (.bool false :: reps (.bool false) mc) (la + lb)) := Lib.hid (by have := hH2.out; rw [reps_cons]; exact this)
                  clear hH2 hb0
                  refine (takes_bool (.bool false) _ p _ _ hH3.out).mono ?_
                  rintro e w3 ⟨rfl, h3, k3⟩
                  have H3 := Lib.hid h3
                  have B3 := Lib.hid (hB2.out.trans (k3.below (B := w.heap.size) hB2.out.size HP.out))
                  clear h3 k3
                  go_wp2_with fail
                  refine (lost_bool _ p _ _ _ H3.out).mono ?_
                  rintro e w4 ⟨rfl, rfl⟩
                  go_wp2
                  go_ret
                  exact ⟨rfl, B3.out⟩
end Go.Proofs.Ytbfldeeggbnhiaa

/- HatchRound returns true for n from 0 to 70 and rounds from 0 to 5. Conditions: those. -/
import Derived.Test.YtbfldeeggbnhiaaFull
namespace Go.Proofs.Ytbfldeeggbnhiaa
open Go.RowKit Go.Mem
def sx : Value := .string ⟨#[120]⟩
set_option maxHeartbeats 2000000 in
theorem hatchRound_main (r : Int) (n : Nat) (A B : Nat) (hA : A ≤ 70) (hB : B ≤ 5) (hn : n = max 1 (min r.toNat 64)) (w : World) :
    Calls Try.prog 8 #[.int .i64 r, .int .i64 A, .int .i64 B] w fun e w' => e = .returned (.bool true) ∧ Below w.heap.size w w' := by
  have HN := Lib.hid (fun w => new_string r n hn w)
  have hn1 : 1 ≤ n := by omega
  have hn2 : n ≤ 64 := by omega
  obtain ⟨R, hR⟩ : ∃ R : Int, R = (if (64 : Int) < r then 64 else r) := ⟨_, rfl⟩
  have hRn : (if R < 1 then 1 else R) = (n : Int) := by rw [hR]; omega
  have hmin : ∀ (w : World) ts t, (Builtin.min_ ts t #[.int .i64 r, .int .i64 64]).run Try.prog w = .ok (.int .i64 R) w := fun w ts t => by rw [run_min_int2, hR]
  have hmax : ∀ (w : World) ts t, (Builtin.max_ ts t #[.int .i64 1, .int .i64 R]).run Try.prog w = .ok (.int .i64 n) w := fun w ts t => by rw [run_max_int2, ← hRn]; congr 2; split <;> split <;> omega
  clear hn hR hRn
  have dA : decide ((A : Int) < 0) = false := by simp
  have dA' : decide ((70 : Int) < A) = false := by simp; omega
  have dB : decide ((B : Int) < 0) = false := by simp
  have dB' : decide ((5 : Int) < B) = false := by simp; omega
  obtain ⟨ma, hma⟩ : ∃ ma, ma = min A n := ⟨_, rfl⟩
  obtain ⟨la, hla⟩ : ∃ la, la = A - n := ⟨_, rfl⟩
  have m1 : ∀ (w : World) ts t, (Builtin.min_ ts t #[.int .i64 A, .int .i64 n]).run Try.prog w = .ok (.int .i64 ma) w := fun w ts t => by rw [run_min_int2, hma]; congr 2; split <;> omega
  have m3 : ∀ (w : World) ts t, (Builtin.max_ ts t #[.int .i64 0, .int .i64 ((A : Int) - n)]).run Try.prog w = .ok (.int .i64 la) w := fun w ts t => by rw [run_max_int2, hla]; congr 2; split <;> omega
  have hma' : ma ≤ 70 := by omega
  have hla' : la ≤ 70 := by omega
  have HMA := Lib.hid hma
  have HLA := Lib.hid hla
  clear hma hla
  go_enter Try.func8, Try.ntmps8
  go_wp2_with (go_at_call 9; refine (begun_true _).mono ?_; rintro e w1 ⟨rfl, B1⟩; have HB := Lib.hid B1; clear B1)
  refine (HN.out _).mono ?_
  rintro e w2 ⟨p, rfl, hn, h1, k1, hp⟩
  have H1 := Lib.hid h1
  have HB2 := Lib.hid (HB.out.trans (k1.below (B := w.heap.size) HB.out.size (fun _ h => h.elim)))
  have HP := Lib.hid (fun k hk => Nat.le_trans HB.out.size (hp k hk))
  have HPN := Lib.hid hn
  clear hn h1 k1 hp HN HB
  go_wp2
  clear hmin hmax
  go_loopw [10, 11] (fun l i wr => ∃ q : Nat, q ≤ B ∧ i = .int .i64 q ∧ l = .int .i64 (q * la : Nat) ∧ Hid (Hat wr p [] [] (q * la)) ∧ Hid (Below w.heap.size w wr)) (fun _ i _ => B - (intOf i).toNat)
  case atStart => exact ⟨0, Nat.zero_le _, rfl, by simp, Lib.hid (by simpa using H1.out), HB2⟩
  case round =>
    obtain ⟨q, hq, rfl, rfl, hH, hB2⟩ := hrel
    have hql : q * la ≤ 350 := Nat.le_trans (Nat.mul_le_mul hq hla') (by omega)
    have hqs : (q + 1) * la = q * la + la := by rw [Nat.add_mul, Nat.one_mul]
    have HQS := Lib.hid hqs
    clear hqs
    generalize hL : q * la = L at *
    have HL := Lib.hid hL
    clear hL
    by_cases hlt : q < B
    · go_wp2
      go_loopw [12] (fun i wr => ∃ k : Nat, k ≤ A ∧ i = .int .i64 k ∧ Hid (Hat wr p [] (reps sx (min k n)) (L + (k - n))) ∧ Hid (Below w.heap.size w wr)) (fun i _ => A - (intOf i).toNat)
      case atStart => exact ⟨0, Nat.zero_le _, rfl, Lib.hid (by simpa [reps] using hH.out), hB2⟩
      case round =>
        obtain ⟨k, hk, rfl, hH, hB2⟩ := hrel
        by_cases hlt : k < A
        · by_cases hkn : k < n
          · have dk : decide ((k : Int) < n) = true := by simp; omega
            go_wp2_with fail
            refine (slow_ok_string sx _ p _ _ _ hH.out (by rw [HPN.out, reps_len]; omega)).mono ?_
            rintro e w3 ⟨rfl, h3, k3⟩
            have H3 := Lib.hid h3
            have B3 := Lib.hid (hB2.out.trans (k3.below (B := w.heap.size) hB2.out.size HP.out))
            clear h3 k3
            go_wp2
            go_roundw
            case rel => exact ⟨k + 1, by omega, by go_num, Lib.hid (by have := H3.out; rw [reps_snoc] at this; rw [show min (k + 1) n = min k n + 1 from by omega, show k + 1 - n = k - n from by omega]; exact this), B3⟩
            case measure => simp [intOf]; omega
          · have dk : decide ((k : Int) < n) = false := by simp; omega
            go_wp2_with fail
            refine (slow_full_string sx _ p _ _ _ hH.out (by rw [HPN.out, reps_len]; omega) (by omega)).mono ?_
            rintro e w3 ⟨rfl, h3, k3⟩
            have H3 := Lib.hid h3
            have B3 := Lib.hid (hB2.out.trans (k3.below (B := w.heap.size) hB2.out.size HP.out))
            clear h3 k3
            go_wp2
            go_roundw
            case rel => exact ⟨k + 1, by omega, by go_num, Lib.hid (by have := H3.out; rw [show min (k + 1) n = min k n from by omega, show L + (k + 1 - n) = L + (k - n) + 1 from by omega]; exact this), B3⟩
            case measure => simp [intOf]; omega
        · have H3 : Hid (Hat wr p [] (reps sx (ma - 0)) (L + la)) := Lib.hid (by have := hH.out; rw [HMA.out, HLA.out]; rw [show min A n - 0 = min k n from by omega, show A - n = k - n from by omega]; exact this)
          clear hH
          go_wp2
          go_loopw [13] (fun i wr => ∃ j : Nat, j ≤ ma ∧ i = .int .i64 j ∧ Hid (Hat wr p [] (reps sx (ma - j)) (L + la)) ∧ Hid (Below w.heap.size w wr)) (fun i _ => ma - (intOf i).toNat)
          case atStart => exact ⟨0, Nat.zero_le _, rfl, H3, hB2⟩
          case round =>
            obtain ⟨j, hj, rfl, hH, hB2⟩ := hrel
            by_cases hlt : j < ma
            · have hH2 : Hid (Hat wr p [] (.string ⟨#[120]⟩ :: reps sx (ma - (j + 1))) (L + la)) := Lib.hid (by have := hH.out; rw [show (Value.string ⟨#[120]⟩) = sx from rfl, reps_cons, show ma - (j + 1) + 1 = ma - j from by omega]; exact this)
              go_wp2_with fail
              refine (takes_string _ _ p _ _ hH2.out).mono ?_
              rintro e w3 ⟨rfl, h3, k3⟩
              have H3 := Lib.hid h3
              have B3 := Lib.hid (hB2.out.trans (k3.below (B := w.heap.size) hB2.out.size HP.out))
              clear h3 k3
              go_wp2
              go_roundw
              case rel => exact ⟨j + 1, by omega, by go_num, H3, B3⟩
              case measure => simp [intOf]; omega
            · have hH2 : Hid (Hat wr p [] [] (L + la)) := Lib.hid (by have := hH.out; rw [show ma - j = 0 from by omega] at this; exact this)
              clear hH
              go_wp2_with fail
              refine (take0_string _ p _ hH2.out).mono ?_
              rintro e w3 ⟨rfl, h3, k3⟩
              have H3 := Lib.hid h3
              have B3 := Lib.hid (hB2.out.trans (k3.below (B := w.heap.size) hB2.out.size HP.out))
              clear h3 k3
              go_wp2
              go_roundw
              case rel => exact ⟨q + 1, by omega, by go_num, by rw [HQS.out]; go_num, Lib.hid (by rw [HQS.out]; exact H3.out), B3⟩
              case measure => simp [intOf]; omega
    · go_wp2_with fail
      refine (lost_string _ p _ _ _ hH.out).mono ?_
      rintro e w4 ⟨rfl, rfl⟩
      go_wp2
      go_ret
      exact ⟨rfl, hB2.out⟩
end Go.Proofs.Ytbfldeeggbnhiaa

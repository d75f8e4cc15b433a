/- OnceNumbers, walked. Conditions: none. -/
import Derived.Test.YtooknplhfimieaaTwice
import Derived.Lib.SlBytesConst
namespace Go.Proofs.Ytooknplhfimieaa
open Go.RowKit Go.Mem
def letB (c : Nat) : UInt8 := UInt8.ofNat (97 + c)
def NU (k : Nat) : List T3 := (List.range k).map (fun i : Nat => T3.mk (((i : Int) + 1) * 7) (.int .i64 ((i : Int) + 1)) (.string ⟨#[letB ((i + 1) % 26)]⟩))
theorem NU_len (k : Nat) : (NU k).length = k := by simp [NU]
theorem NU_succ (k c : Nat) (hc : (k + 1) % 26 = c) : NU (k + 1) = NU k ++ [T3.mk (((k : Int) + 1) * 7) (.int .i64 ((k : Int) + 1)) (.string ⟨#[letB c]⟩)] := by subst hc; simp [NU, List.range_succ]
theorem NU_at (k j : Nat) (hj : j < k) : (NU k)[j]? = some (T3.mk (((j : Int) + 1) * 7) (.int .i64 ((j : Int) + 1)) (.string ⟨#[letB ((j + 1) % 26)]⟩)) := by simp [NU, hj]
theorem NU_mem {k : Nat} {x : T3} (h : x ∈ NU k) : ∃ j : Nat, j < k ∧ x.r = ((j : Int) + 1) * 7 := by
  obtain ⟨j, hj, rfl⟩ := List.getElem_of_mem h
  have hj' : j < k := by simpa [NU_len] using hj
  have := NU_at k j hj'
  rw [List.getElem?_eq_getElem hj] at this
  exact ⟨j, hj', by rw [Option.some.inj this]⟩
theorem conv1 (c : Nat) (hc : c < 26) (wr : World) : (convert 43 9 (.slice (some ⟨wr.heap.size, 0, none⟩) 1 1)).run Try.prog (wr.alloc (.cells #[.int .u8 (97 + (c : Int))] 5)) = .ok (.string ⟨#[letB c]⟩) (wr.alloc (.cells #[.int .u8 (97 + (c : Int))] 5)) := by
  have h := run_convert_bytes_back (P := Try.prog) (wr.alloc (.cells #[.int .u8 (97 + (c : Int))] 5)) 43 9 5 ⟨wr.heap.size, 0, none⟩ 1 [letB c] Try.underlying43 Try.underlying5 Try.underlying9 (fun j hj => by
    obtain rfl : j = 0 := by simpa using hj
    have e : ((letB c).toNat : Int) = 97 + (c : Int) := by unfold letB; rw [UInt8.toNat_ofNat']; omega
    simp only [List.getElem_cons_zero, e]
    simp [Addr.add])
  exact h
set_option maxRecDepth 100000 in
set_option maxHeartbeats 2000000 in
theorem onceNumbers_main (n turn : Int) (w : World) :
    Calls Try.prog 7 #[.int .i64 n, .int .i64 turn] w fun e w' => e = .returned (.bool true) ∧ Below w.heap.size w w' := by
  have t1 : -100 < n.tmod 100 := by have := Int.lt_tmod_of_pos n (b := 100) (by omega); omega
  have t2 : n.tmod 100 < 100 := Int.tmod_lt_of_pos n (by omega)
  obtain ⟨N, hN⟩ : ∃ N : Nat, n.tmod 100 % 100 = (N : Int) := ⟨(n.tmod 100 % 100).toNat, by omega⟩
  have hN1 : N < 100 := by omega
  go_enter Try.func7, Try.ntmps7
  go_wp2_with (go_at_call 8; refine (begun_true _).mono ?_; rintro e w1 ⟨rfl, B1⟩; have HB := Lib.hid B1; clear B1)
  refine (tb_new_IS 100 100 (by decide) w _ HB.out).mono ?_
  rintro e w2 ⟨tb, rfl, h2⟩
  have H2 := Lib.hid h2
  clear h2
  go_wp2
  clear hN t1 t2
  go_loopw [7] (fun i wr => ∃ k : Nat, k ≤ N ∧ i = .int .i64 ((k : Int) + 1) ∧ Hid (Tb 55 w wr tb 100 (NU k))) (fun i _ => N + 1 - (intOf i).toNat)
  case atStart => exact ⟨0, Nat.zero_le _, rfl, Lib.hid (by simpa [NU] using H2.out)⟩
  case round =>
    obtain ⟨k, hk, rfl, hT⟩ := hrel
    by_cases hlt : k < N
    · have d1 : decide ((k : Int) + 1 ≤ N) = true := by simp; omega
      obtain ⟨c, hc⟩ : ∃ c : Nat, ((k : Int) + 1) % 26 = (c : Int) := ⟨(((k : Int) + 1) % 26).toNat, by omega⟩
      have hc1 : c < 26 := by omega
      have hcv := conv1 c hc1
      have HC := Lib.hid hc
      go_wp2_with fail
      refine (tb_tell_ok_IS (hT.out.below ((Below.refl _ _).alloc (Nat.le_refl _) _)) (by omega) (((k : Int) + 1) * 7) ((k : Int) + 1) ⟨#[letB c]⟩ (by omega) (fun x hx => by obtain ⟨j, hj, e⟩ := NU_mem hx; omega)).mono ?_
      rintro e w3 ⟨rfl, h3⟩
      have H3 := Lib.hid h3
      clear h3 hc
      go_wp2
      go_roundw
      case rel => exact ⟨k + 1, by omega, by go_num, Lib.hid (by rw [NU_succ k c (by have := HC.out; omega)]; have := H3.out; rw [NU_len, show k + 1 - 100 = 0 from by omega, List.drop_zero] at this; exact this)⟩
      case measure => simp [intOf]; omega
    · obtain rfl : k = N := by omega
      have d1 : decide ((k : Int) + 1 ≤ k) = false := by simp; omega
      go_wp2
      go_loopw [8] (fun i wr => ∃ j : Nat, j ≤ k ∧ i = .int .i64 ((j : Int) + 1) ∧ Hid (Tb 55 w wr tb 100 (NU k))) (fun i _ => k + 1 - (intOf i).toNat)
      case atStart => exact ⟨0, Nat.zero_le _, rfl, hT⟩
      case round =>
        obtain ⟨j, hj, rfl, hT⟩ := hrel
        by_cases hlt : j < k
        · have d2 : decide ((j : Int) + 1 ≤ k) = true := by simp; omega
          have hkp : (0 : Int) < (k : Int) := by omega
          have t1 : -(k : Int) < turn.tmod k := Int.lt_tmod_of_pos turn hkp
          have t2 : turn.tmod k < (k : Int) := Int.tmod_lt_of_pos turn hkp
          have x1 : 0 ≤ turn.tmod k % (k : Int) := Int.emod_nonneg _ (by omega)
          have x2 : turn.tmod k % (k : Int) < k := Int.emod_lt_of_pos _ hkp
          obtain ⟨X, hX⟩ : ∃ X : Nat, turn.tmod k % (k : Int) = (X : Int) := ⟨(turn.tmod k % (k : Int)).toNat, by omega⟩
          have hX1 : X < k := by omega
          have y1 : 0 ≤ ((j : Int) + 1 + X) % (k : Int) := Int.emod_nonneg _ (by omega)
          have y2 : ((j : Int) + 1 + X) % (k : Int) < k := Int.emod_lt_of_pos _ hkp
          obtain ⟨Y, hY⟩ : ∃ Y : Nat, ((j : Int) + 1 + X) % (k : Int) = (Y : Int) := ⟨(((j : Int) + 1 + X) % (k : Int)).toNat, by omega⟩
          have hY1 : Y < k := by omega
          clear x1 x2 y1 y2
          obtain ⟨c, hc⟩ : ∃ c : Nat, (1 + (Y : Int)) % 26 = (c : Int) := ⟨((1 + (Y : Int)) % 26).toNat, by omega⟩
          have hc1 : c < 26 := by omega
          have hcv := conv1 c hc1
          have HA : Hid ((NU k)[Y]? = some ⟨(1 + (Y : Int)) * 7, .int .i64 (1 + (Y : Int)), .string ⟨#[letB c]⟩⟩) := Lib.hid (by rw [NU_at k Y hY1, show (Y + 1) % 26 = c from by omega, show (Y : Int) + 1 = 1 + (Y : Int) from by omega])
          go_wp2_with fail
          refine (tb_seen_same_IS hT.out (by omega) ((1 + (Y : Int)) * 7) (1 + (Y : Int)) Y (.string ⟨#[letB c]⟩) HA.out (fun i y hi hy => by rw [NU_at k i (by omega)] at hy; have e := Option.some.inj hy; rw [← e]; simp only; omega)).mono ?_
          rintro e w3 ⟨rfl, h3⟩
          have H3 := Lib.hid h3
          clear h3
          go_wp2_with fail
          refine (tb_seen_new_IS H3.out (by omega) ((1 + (Y : Int)) * 7 + 1) (.int .i64 (1 + (Y : Int))) (fun x hx => by obtain ⟨i, hi, e⟩ := NU_mem hx; omega)).mono ?_
          rintro e w4 ⟨rfl, h4⟩
          have H4 := Lib.hid h4
          clear h4
          have q1 : (ByteArray.toList ⟨#[letB c]⟩ == ByteArray.toList ⟨#[letB c]⟩) = true := by simp
          go_wp2
          go_roundw
          case rel => exact ⟨j + 1, by omega, by go_num, Lib.hid (H4.out.below ((Below.refl _ _).alloc (Nat.le_refl _) _))⟩
          case measure => simp [intOf]; omega
        · have d2 : decide ((j : Int) + 1 ≤ k) = false := by simp; omega
          go_wp2_with fail
          refine (tb_len_IS hT.out).mono ?_
          rw [NU_len]
          rintro e w3 ⟨rfl, h3⟩
          have H3 := Lib.hid h3
          clear h3
          go_wp2
          go_ret
          exact ⟨rfl, H3.out.bel⟩
end Go.Proofs.Ytooknplhfimieaa

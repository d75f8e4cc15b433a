/- OnceTwice and OnceFull, walked. Conditions: those that each names. -/
import Derived.Test.YtooknplhfimieaaBegun
namespace Go.Proofs.Ytooknplhfimieaa
open Go.RowKit Go.Mem
set_option maxHeartbeats 1000000 in
theorem twice_low (req : Int) (a b : ByteArray) (x y : Int) (w : World) (hr : req < 1) :
    Calls Try.prog 6 #[.int .i64 req, .string a, .string b, .int .i64 x, .int .i64 y] w fun e w' => e = .returned (.bool true) ∧ Below w.heap.size w w' := by
  have d1 : decide (req < 1) = true := by simpa using hr
  go_enter Try.func6, Try.ntmps6
  go_wp2_with (go_at_call 8; refine (begun_true _).mono ?_; rintro e w1 ⟨rfl, B1⟩; have HB := Lib.hid B1; clear B1)
  refine (tb_new_SI 3 3 rfl w _ HB.out).mono ?_
  rintro e w2 ⟨tb, rfl, h2⟩
  have H2 := Lib.hid h2
  clear h2
  go_wp2_with fail
  refine (tb_tell_low_SI H2.out req (.string a) (.int .i64 x) hr).mono ?_
  rintro e w3 ⟨rfl, h3⟩
  have H3 := Lib.hid h3
  clear h3
  go_wp2_with fail
  refine (tb_tell_low_SI H3.out req (.string b) (.int .i64 y) hr).mono ?_
  rintro e w4 ⟨rfl, h4⟩
  have H4 := Lib.hid h4
  clear h4
  go_wp2_with fail
  refine (tb_seen_new_SI H4.out (by omega) req (.string a) (fun x hx => by simp at hx)).mono ?_
  rintro e w5 ⟨rfl, h5⟩
  have H5 := Lib.hid h5
  clear h5
  go_wp2_with fail
  refine (tb_seen_new_SI H5.out (by omega) req (.string b) (fun x hx => by simp at hx)).mono ?_
  rintro e w6 ⟨rfl, h6⟩
  have H6 := Lib.hid h6
  clear h6
  go_wp2
  go_ret
  exact ⟨rfl, H6.out.bel⟩
set_option maxHeartbeats 1000000 in
theorem twice_same (req : Int) (a b : ByteArray) (x y : Int) (w : World) (hr : 1 ≤ req) (hab : a = b) :
    Calls Try.prog 6 #[.int .i64 req, .string a, .string b, .int .i64 x, .int .i64 y] w fun e w' => e = .returned (.bool true) ∧ Below w.heap.size w w' := by
  have d1 : decide (req < 1) = false := by simpa using hr
  subst hab
  have q1 : (a.toList == a.toList) = true := by simp
  go_enter Try.func6, Try.ntmps6
  go_wp2_with (go_at_call 8; refine (begun_true _).mono ?_; rintro e w1 ⟨rfl, B1⟩; have HB := Lib.hid B1; clear B1)
  refine (tb_new_SI 3 3 rfl w _ HB.out).mono ?_
  rintro e w2 ⟨tb, rfl, h2⟩
  have H2 := Lib.hid h2
  clear h2
  go_wp2_with fail
  refine (tb_tell_ok_SI H2.out (by omega) req a x hr (fun x hx => by simp at hx)).mono ?_
  rintro e w3 ⟨rfl, h3⟩
  have H3 := Lib.hid h3
  clear h3
  have H3' : Hid (Tb 49 w w3 tb 3 [⟨req, .string a, .int .i64 x⟩]) := H3
  go_wp2_with fail
  refine (tb_tell_there_SI H3'.out (by omega) req (.string a) (.int .i64 y) hr ⟨_, List.mem_singleton.2 rfl, rfl⟩).mono ?_
  rintro e w4 ⟨rfl, h4⟩
  have H4 := Lib.hid h4
  clear h4
  go_wp2_with fail
  refine (tb_seen_same_SI H4.out (by omega) req a 0 (.int .i64 x) rfl (fun j y hj _ => absurd hj (by omega))).mono ?_
  rintro e w5 ⟨rfl, h5⟩
  have H5 := Lib.hid h5
  clear h5
  go_wp2_with fail
  refine (tb_seen_same_SI H5.out (by omega) req a 0 (.int .i64 x) rfl (fun j y hj _ => absurd hj (by omega))).mono ?_
  rintro e w6 ⟨rfl, h6⟩
  have H6 := Lib.hid h6
  clear h6
  go_wp2
  go_ret
  exact ⟨rfl, H6.out.bel⟩
set_option maxHeartbeats 1000000 in
theorem twice_other (req : Int) (a b : ByteArray) (x y : Int) (w : World) (hr : 1 ≤ req) (hab : a ≠ b) :
    Calls Try.prog 6 #[.int .i64 req, .string a, .string b, .int .i64 x, .int .i64 y] w fun e w' => e = .returned (.bool true) ∧ Below w.heap.size w w' := by
  have d1 : decide (req < 1) = false := by simpa using hr
  have HAB := Lib.hid hab
  have q1 : (a.toList == b.toList) = false := by rw [← beq_toListBytes]; exact Bool.eq_false_iff.2 (fun h => hab ((MapKept.bytes_beq _ _).1 h))
  clear hab
  go_enter Try.func6, Try.ntmps6
  go_wp2_with (go_at_call 8; refine (begun_true _).mono ?_; rintro e w1 ⟨rfl, B1⟩; have HB := Lib.hid B1; clear B1)
  refine (tb_new_SI 3 3 rfl w _ HB.out).mono ?_
  rintro e w2 ⟨tb, rfl, h2⟩
  have H2 := Lib.hid h2
  clear h2
  go_wp2_with fail
  refine (tb_tell_ok_SI H2.out (by omega) req a x hr (fun x hx => by simp at hx)).mono ?_
  rintro e w3 ⟨rfl, h3⟩
  have H3 := Lib.hid h3
  clear h3
  have H3' : Hid (Tb 49 w w3 tb 3 [⟨req, .string a, .int .i64 x⟩]) := H3
  go_wp2_with fail
  refine (tb_tell_there_SI H3'.out (by omega) req (.string b) (.int .i64 y) hr ⟨_, List.mem_singleton.2 rfl, rfl⟩).mono ?_
  rintro e w4 ⟨rfl, h4⟩
  have H4 := Lib.hid h4
  clear h4
  go_wp2_with fail
  refine (tb_seen_same_SI H4.out (by omega) req a 0 (.int .i64 x) rfl (fun j y hj _ => absurd hj (by omega))).mono ?_
  rintro e w5 ⟨rfl, h5⟩
  have H5 := Lib.hid h5
  clear h5
  go_wp2_with fail
  refine (tb_seen_other_SI H5.out (by omega) req b a 0 (.int .i64 x) HAB.out rfl (fun j y hj _ => absurd hj (by omega))).mono ?_
  rintro e w6 ⟨rfl, h6⟩
  have H6 := Lib.hid h6
  clear h6
  go_wp2
  go_ret
  exact ⟨rfl, H6.out.bel⟩
def FU (k : Nat) : List T3 := (List.range k).map (fun i : Nat => T3.mk ((i : Int) + 1) (.int .i64 ((i : Int) + 1)) (.string ⟨#[97]⟩))
theorem FU_len (k : Nat) : (FU k).length = k := by simp [FU]
theorem FU_succ (k : Nat) : FU (k + 1) = FU k ++ [T3.mk ((k : Int) + 1) (.int .i64 ((k : Int) + 1)) (.string ⟨#[97]⟩)] := by simp [FU, List.range_succ]
theorem FU_step (k n : Nat) (hn : 1 ≤ n) : (((FU k).drop (k - n)) ++ [T3.mk ((k : Int) + 1) (.int .i64 ((k : Int) + 1)) (.string ⟨#[97]⟩)]).drop (((FU k).drop (k - n)).length + 1 - n) = (FU (k + 1)).drop (k + 1 - n) := by
  rw [FU_succ, ← List.drop_append_of_le_length (by rw [FU_len]; omega), List.drop_drop, List.length_drop, FU_len]
  congr 1; omega
theorem FU_at (k m : Nat) (j : Nat) (hj : j < k - m) : ((FU k).drop m)[j]? = some (T3.mk (((m + j : Nat) : Int) + 1) (.int .i64 (((m + j : Nat) : Int) + 1)) (.string ⟨#[97]⟩)) := by
  rw [List.getElem?_drop]
  simp [FU, show m + j < k by omega]
theorem FU_mem {k m : Nat} {x : T3} (h : x ∈ (FU k).drop m) : ((m : Int) + 1 ≤ x.r) ∧ x.r ≤ k := by
  obtain ⟨j, hj, rfl⟩ := List.getElem_of_mem h
  have hj' : j < k - m := by simpa [FU_len] using hj
  have := FU_at k m j hj'
  rw [List.getElem?_eq_getElem hj] at this
  rw [Option.some.inj this]
  simp only
  omega
set_option maxHeartbeats 2000000 in
theorem onceFull_main (r : Int) (n : Nat) (M : Nat) (hM : M ≤ 120) (hn : n = max 1 (min r.toNat 100)) (w : World) :
    Calls Try.prog 4 #[.int .i64 r, .int .i64 M] w fun e w' => e = .returned (.bool true) ∧ Below w.heap.size w w' := by
  have HN := Lib.hid hn
  have hn1 : 1 ≤ n := by omega
  have hn2 : n ≤ 100 := by omega
  obtain ⟨R, hR⟩ : ∃ R : Int, R = (if (100 : Int) < r then 100 else r) := ⟨_, rfl⟩
  have hRn : (if R < 1 then 1 else R) = (n : Int) := by rw [hR]; omega
  have hmin : ∀ (w : World) ts t, (Builtin.min_ ts t #[.int .i64 r, .int .i64 100]).run Try.prog w = .ok (.int .i64 R) w := fun w ts t => by rw [run_min_int2, hR]
  have hmax : ∀ (w : World) ts t, (Builtin.max_ ts t #[.int .i64 1, .int .i64 R]).run Try.prog w = .ok (.int .i64 n) w := fun w ts t => by rw [run_max_int2, ← hRn]; congr 2; split <;> split <;> omega
  clear hn hR hRn
  have dA : decide ((M : Int) < 0) = false := by simp
  have dA' : decide ((120 : Int) < M) = false := by simp; omega
  obtain ⟨mm, hmm⟩ : ∃ mm, mm = min M n := ⟨_, rfl⟩
  have m1 : ∀ (w : World) ts t, (Builtin.min_ ts t #[.int .i64 M, .int .i64 n]).run Try.prog w = .ok (.int .i64 mm) w := fun w ts t => by rw [run_min_int2, hmm]; congr 2; split <;> omega
  have HMM := Lib.hid hmm
  clear hmm
  go_enter Try.func4, Try.ntmps4
  go_wp2_with (go_at_call 8; refine (begun_true _).mono ?_; rintro e w1 ⟨rfl, B1⟩; have HB := Lib.hid B1; clear B1)
  refine (tb_new_IS r n HN.out w _ HB.out).mono ?_
  rintro e w2 ⟨tb, rfl, h2⟩
  have H2 := Lib.hid h2
  clear h2
  go_wp2
  clear hmin hmax
  go_loopw [8] (fun i wr => ∃ k : Nat, k ≤ M ∧ i = .int .i64 ((k : Int) + 1) ∧ Hid (Tb 55 w wr tb n ((FU k).drop (k - n)))) (fun i _ => M + 1 - (intOf i).toNat)
  case atStart => exact ⟨0, Nat.zero_le _, rfl, Lib.hid (by simpa [FU] using H2.out)⟩
  case round =>
    obtain ⟨k, hk, rfl, hT⟩ := hrel
    by_cases hlt : k < M
    · have d1 : decide ((k : Int) + 1 ≤ M) = true := by simp; omega
      go_wp2_with fail
      refine (tb_tell_ok_IS hT.out (by omega) ((k : Int) + 1) ((k : Int) + 1) ⟨#[97]⟩ (by omega) (fun x hx => by have := (FU_mem hx).2; omega)).mono ?_
      rintro e w3 ⟨rfl, h3⟩
      have H3 := Lib.hid h3
      clear h3
      go_wp2
      go_roundw
      case rel => exact ⟨k + 1, by omega, by go_num, Lib.hid (by rw [← FU_step k n hn1]; exact H3.out)⟩
      case measure => simp [intOf]; omega
    · obtain rfl : k = M := by omega
      have d1 : decide ((k : Int) + 1 ≤ k) = false := by simp; omega
      go_wp2
      go_loopw [9] (fun i wr => ∃ j : Nat, j ≤ k ∧ i = .int .i64 ((j : Int) + 1) ∧ Hid (Tb 55 w wr tb n ((FU k).drop (k - n)))) (fun i _ => k + 1 - (intOf i).toNat)
      case atStart => exact ⟨0, Nat.zero_le _, rfl, hT⟩
      case round =>
        obtain ⟨j, hj, rfl, hT⟩ := hrel
        by_cases hlt : j < k
        · have d2 : decide ((j : Int) + 1 ≤ k) = true := by simp; omega
          by_cases hin : k - n ≤ j
          · have d3 : decide ((k : Int) - n < (j : Int) + 1) = true := by simp; omega
            have d4 : decide ((k : Int) < (j : Int) + 1 + n) = true := by simp; omega
            go_wp2_with fail
            refine (tb_seen_same_IS hT.out (by omega) ((j : Int) + 1) ((j : Int) + 1) (j - (k - n)) (.string ⟨#[97]⟩) (by rw [FU_at k (k - n) _ (by omega), show k - n + (j - (k - n)) = j from by omega]) (fun i y hi hy => by rw [FU_at k (k - n) i (by omega)] at hy; cases hy; simp only; omega)).mono ?_
            rintro e w3 ⟨rfl, h3⟩
            have H3 := Lib.hid h3
            clear h3
            go_wp2
            go_roundw
            case rel => exact ⟨j + 1, by omega, by go_num, H3⟩
            case measure => simp [intOf]; omega
          · have d3 : decide ((k : Int) - n < (j : Int) + 1) = false := by simp; omega
            go_wp2_with fail
            refine (tb_seen_new_IS hT.out (by omega) ((j : Int) + 1) (.int .i64 ((j : Int) + 1)) (fun x hx => by have := (FU_mem hx).1; omega)).mono ?_
            rintro e w3 ⟨rfl, h3⟩
            have H3 := Lib.hid h3
            clear h3
            go_wp2
            go_roundw
            case rel => exact ⟨j + 1, by omega, by go_num, H3⟩
            case measure => simp [intOf]; omega
        · have d2 : decide ((j : Int) + 1 ≤ k) = false := by simp; omega
          go_wp2_with fail
          refine (tb_len_IS hT.out).mono ?_
          rw [show ((FU k).drop (k - n)).length = mm from by rw [List.length_drop, FU_len, HMM.out]; omega]
          rintro e w3 ⟨rfl, h3⟩
          have H3 := Lib.hid h3
          clear h3
          go_wp2
          go_ret
          exact ⟨rfl, H3.out.bel⟩
end Go.Proofs.Ytooknplhfimieaa

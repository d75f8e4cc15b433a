/- once's begun returns true; OnceNone; OnceTwice. Conditions: none. -/
import Derived.Test.YtooknplhfimieaaTb
namespace Go.Proofs.Ytooknplhfimieaa
open Go.RowKit Go.Mem
set_option maxHeartbeats 1000000 in
theorem begun_true (w : World) : Calls Try.prog 8 #[] w fun e w' => e = .returned (.bool true) ∧ Below w.heap.size w w' := by
  go_enter Try.func8, Try.ntmps8
  go_wp2_with fail
  refine (tb_new_SI 2 2 rfl w w (Below.refl _ _)).mono ?_
  rintro e w1 ⟨b, rfl, h1⟩
  have H1 := Lib.hid h1
  clear h1
  go_wp2_with fail
  refine (tb_tell_ok_SI H1.out (by omega) 5 ⟨#[113]⟩ 7 (by omega) (fun x hx => by simp at hx)).mono ?_
  rintro e w2 ⟨rfl, h2⟩
  have H2 := Lib.hid h2
  clear h2
  have H2' : Hid (Tb 49 w w2 b 2 [⟨5, .string ⟨#[113]⟩, .int .i64 7⟩]) := H2
  go_wp2_with fail
  refine (tb_seen_same_SI H2'.out (by omega) 5 ⟨#[113]⟩ 0 (.int .i64 7) rfl (fun j y hj _ => absurd hj (by omega))).mono ?_
  rintro e w3 ⟨rfl, h3⟩
  have H3 := Lib.hid h3
  clear h3
  go_wp2_with fail
  refine (tb_seen_other_SI H3.out (by omega) 5 ⟨#[114]⟩ ⟨#[113]⟩ 0 (.int .i64 7) (by decide) rfl (fun j y hj _ => absurd hj (by omega))).mono ?_
  rintro e w4 ⟨rfl, h4⟩
  have H4 := Lib.hid h4
  clear h4
  go_wp2_with fail
  refine (tb_seen_new_SI H4.out (by omega) 6 (.string ⟨#[113]⟩) (fun x hx => by simp only [List.mem_singleton] at hx; subst hx; decide)).mono ?_
  rintro e w5 ⟨rfl, h5⟩
  have H5 := Lib.hid h5
  clear h5
  go_wp2_with fail
  refine (tb_tell_there_SI H5.out (by omega) 5 (.string ⟨#[122]⟩) (.int .i64 1) (by omega) ⟨_, List.mem_singleton.2 rfl, rfl⟩).mono ?_
  rintro e w6 ⟨rfl, h6⟩
  have H6 := Lib.hid h6
  clear h6
  go_wp2_with fail
  refine (tb_tell_low_SI H6.out 0 (.string ⟨#[122]⟩) (.int .i64 1) (by omega)).mono ?_
  rintro e w7 ⟨rfl, h7⟩
  have H7 := Lib.hid h7
  clear h7
  go_wp2_with fail
  refine (tb_len_SI H7.out).mono ?_
  rintro e w8 ⟨rfl, h8⟩
  have H8 := Lib.hid h8
  clear h8
  go_wp2
  go_ret
  exact ⟨rfl, H8.out.bel⟩
set_option maxHeartbeats 1000000 in
theorem onceNone_walk (w : World) : Calls Try.prog 5 #[] w fun e w' => e = .returned (.bool true) ∧ Below w.heap.size w w' := by
  go_enter Try.func5, Try.ntmps5
  go_wp2_with (first | (go_at_call 8; refine (begun_true _).mono ?_; rintro e w1 ⟨rfl, B1⟩; have HB := Lib.hid B1; clear B1) | go_in)
  go_ret
  exact ⟨rfl, ((Below.refl w.heap.size w).alloc (Nat.le_refl _) _).trans (HB.out.mono (by simp))⟩
end Go.Proofs.Ytooknplhfimieaa

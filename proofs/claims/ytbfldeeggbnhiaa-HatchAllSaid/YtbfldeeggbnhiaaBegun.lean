/- hatch's begun returns true; and HatchNone does. Conditions: none. -/
import Derived.Test.YtbfldeeggbnhiaaHat
namespace Go.Proofs.Ytbfldeeggbnhiaa
open Go.RowKit Go.Mem
set_option maxHeartbeats 1000000 in
theorem begun_true (w : World) : Calls Try.prog 9 #[] w fun e w' => e = .returned (.bool true) ∧ Below w.heap.size w w' := by
  go_enter Try.func9, Try.ntmps9
  go_wp2_with fail
  refine (new_string 2 2 rfl _).mono ?_
  rintro e w1 ⟨p, rfl, hn, h1, k1, hp⟩
  have HN := Lib.hid hn
  have H1 := Lib.hid h1
  have B1 := Lib.hid (k1.below (Nat.le_refl _) (fun _ h => h.elim))
  have HP := Lib.hid hp
  clear hn h1 k1 hp
  go_wp2_with fail
  refine (slow_ok_string (.string ⟨#[115]⟩) _ p [] [] 0 H1.out (by rw [HN.out]; decide)).mono ?_
  rintro e w2 ⟨rfl, h2, k2⟩
  have H2 := Lib.hid h2
  have B2 := Lib.hid (B1.out.trans (k2.below (B:= w.heap.size) B1.out.size HP.out))
  clear h2 k2
  go_wp2_with fail
  refine (fast_ok_string (.string ⟨#[97]⟩) _ p [] [.string ⟨#[115]⟩] 0 H2.out (by rw [HN.out]; decide)).mono ?_
  rintro e w3 ⟨rfl, h3, k3⟩
  have H3 := Lib.hid h3
  have B3 := Lib.hid (B2.out.trans (k3.below (B:= w.heap.size) B2.out.size HP.out))
  clear h3 k3
  go_wp2_with fail
  refine (fast_ok_string (.string ⟨#[98]⟩) _ p [.string ⟨#[97]⟩] [.string ⟨#[115]⟩] 0 H3.out (by rw [HN.out]; decide)).mono ?_
  rintro e w4 ⟨rfl, h4, k4⟩
  have H4 := Lib.hid h4
  have B4 := Lib.hid (B3.out.trans (k4.below (B:= w.heap.size) B3.out.size HP.out))
  clear h4 k4
  go_wp2_with fail
  refine (fast_full_string (.string ⟨#[99]⟩) _ p [.string ⟨#[97]⟩, .string ⟨#[98]⟩] [.string ⟨#[115]⟩] 0 H4.out (by rw [HN.out]; rfl) (by omega)).mono ?_
  rintro e w5 ⟨rfl, h5, k5⟩
  have H5 := Lib.hid h5
  have B5 := Lib.hid (B4.out.trans (k5.below (B:= w.heap.size) B4.out.size HP.out))
  clear h5 k5
  go_wp2_with fail
  refine (len_string _ p [.string ⟨#[97]⟩, .string ⟨#[98]⟩] [.string ⟨#[115]⟩] 1 H5.out).mono ?_
  rintro e w6 ⟨rfl, h6, k6⟩
  have H6 := Lib.hid h6
  have B6 := Lib.hid (B5.out.trans (k6.below (B:= w.heap.size) B5.out.size HP.out))
  clear h6 k6
  go_wp2_with fail
  refine (takef_string (.string ⟨#[97]⟩) _ p [.string ⟨#[98]⟩] [.string ⟨#[115]⟩] 1 H6.out).mono ?_
  rintro e w7 ⟨rfl, h7, k7⟩
  have H7 := Lib.hid h7
  have B7 := Lib.hid (B6.out.trans (k7.below (B:= w.heap.size) B6.out.size HP.out))
  clear h7 k7
  go_wp2_with fail
  refine (takef_string (.string ⟨#[98]⟩) _ p [] [.string ⟨#[115]⟩] 1 H7.out).mono ?_
  rintro e w8 ⟨rfl, h8, k8⟩
  have H8 := Lib.hid h8
  have B8 := Lib.hid (B7.out.trans (k8.below (B:= w.heap.size) B7.out.size HP.out))
  clear h8 k8
  go_wp2_with fail
  refine (takes_string (.string ⟨#[115]⟩) _ p [] 1 H8.out).mono ?_
  rintro e w9 ⟨rfl, h9, k9⟩
  have H9 := Lib.hid h9
  have B9 := Lib.hid (B8.out.trans (k9.below (B:= w.heap.size) B8.out.size HP.out))
  clear h9 k9
  go_wp2_with fail
  refine (take0_string _ p 1 H9.out).mono ?_
  rintro e w10 ⟨rfl, h10, k10⟩
  have H10 := Lib.hid h10
  have B10 := Lib.hid (B9.out.trans (k10.below (B:= w.heap.size) B9.out.size HP.out))
  clear h10 k10
  go_wp2_with fail
  refine (lost_string _ p _ _ _ H10.out).mono ?_
  rintro e w' ⟨rfl, rfl⟩
  go_wp2
  go_ret
  exact ⟨rfl, B10.out⟩
set_option maxHeartbeats 1000000 in
theorem hatchNone_walk (w : World) : Calls Try.prog 6 #[] w fun e w' => e = .returned (.bool true) ∧ Below w.heap.size w w' := by
  go_enter Try.func6, Try.ntmps6
  go_wp2_with (first | (go_at_call 9; refine (begun_true _).mono ?_; rintro e w1 ⟨rfl, B1⟩; have HB := Lib.hid B1; clear B1) | go_in)
  go_ret
  exact ⟨rfl, HB.out⟩
end Go.Proofs.Ytbfldeeggbnhiaa

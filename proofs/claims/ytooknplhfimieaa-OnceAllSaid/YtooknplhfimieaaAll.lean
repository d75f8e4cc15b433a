/- OnceAll, walked. Conditions: none. -/
import Derived.Test.YtooknplhfimieaaAsk
import Derived.BigQuiet
import Derived.Deep.QuietTactic
import Derived.Deep.RegionHeld3
namespace Go.Proofs.Ytooknplhfimieaa
open Go.RowKit Go.Mem
set_option maxRecDepth 100000 in
set_option maxHeartbeats 4000000 in
theorem onceAll_main (r : Int) (n : Nat) (hn : n = max 1 (min r.toNat 100)) (a0 : Option Addr) (len cap : Nat) (V : Nat → Asked) (w : World) (hA : ArgA w a0 len V) :
    Calls Try.prog 3 #[.int .i64 r, .slice a0 len cap] w fun e w' => e = .returned (.bool true) ∧ Below w.heap.size w w' := by
  have HN := Lib.hid hn
  have hn1 : 1 ≤ n := by omega
  have hn2 : n ≤ 100 := by omega
  obtain ⟨R, hR⟩ : ∃ R : Int, R = (if (100 : Int) < r then 100 else r) := ⟨_, rfl⟩
  have hRn : (if R < 1 then 1 else R) = (n : Int) := by rw [hR]; omega
  have hmin : ∀ (w : World) ts t, (Builtin.min_ ts t #[.int .i64 r, .int .i64 100]).run Try.prog w = .ok (.int .i64 R) w := fun w ts t => by rw [run_min_int2, hR]
  have hmax : ∀ (w : World) ts t, (Builtin.max_ ts t #[.int .i64 1, .int .i64 R]).run Try.prog w = .ok (.int .i64 n) w := fun w ts t => by rw [run_max_int2, ← hRn]; congr 2; split <;> split <;> omega
  clear hn hR hRn
  have hm := hA.1
  unfold maxLen at hm
  have HA := Lib.hid hA
  obtain ⟨i0, hi, hz0, hz1, hz2⟩ := info_parts info27
  have HI := Lib.hid hi
  have HZ0 := Lib.hid hz0
  have HZ1 := Lib.hid hz1
  have HZ2 := Lib.hid hz2
  clear hA hi hz0 hz1 hz2
  go_enter Try.func3, Try.ntmps3
  go_wp2_with (go_at_call 8; refine (begun_true _).mono ?_; rintro e w1 ⟨rfl, B1⟩; have HB := Lib.hid B1; clear B1)
  refine (new_SI r n HN.out _).mono ?_
  rintro e w2 ⟨rfl, h2, k2⟩
  have T2 : Hid (One w w2 w1.heap.size n [] [] (fun _ => False) none 0 0) := Lib.hid ⟨h2, Sl.nil _ _ _, rfl, fun x hx => absurd hx.1 (by omega), fun _ h => h.elim, HB.out.size, HB.out.trans (k2.below (B := w.heap.size) HB.out.size (fun _ h => h.elim))⟩
  clear h2 k2 HB
  generalize w1.heap.size = tb at *
  go_wp2
  clear hmin hmax
  go_loopw [8, 9] (fun vw i wr => ∃ (k : Nat) (lo : List Asked) (o : Nat → Prop) (aw : Option Addr) (nw cw : Nat), k ≤ len ∧ k ≤ 150 ∧ nw ≤ n ∧ i = .int .i64 k ∧ vw = .slice aw nw cw ∧ Hid (One w wr tb n lo lo o aw nw cw)) (fun _ i _ => 150 - (intOf i).toNat)
  case atStart => exact ⟨0, [], _, none, 0, 0, Nat.zero_le _, Nat.zero_le _, Nat.zero_le _, rfl, rfl, T2⟩
  case round =>
    obtain ⟨k, lo, o, aw, nw, cw, hk, hk2, hnw, rfl, rfl, hT⟩ := hrel
    have hor : (k < len ∧ k < 150) ∨ len ≤ k ∨ (k < len ∧ 150 ≤ k) := by omega
    rcases hor with ⟨hl1, hl2⟩ | hl1 | ⟨hl1, hl2⟩
    · obtain ⟨b, off, rfl, hbl, hc⟩ := HA.out.2 (by omega)
      obtain ⟨c0, c1, c2, c3⟩ := ask_below (hc k hl1) (hT.out.bel) hbl
      clear hc
      have AX := Lib.hid (ask_new wr (V k) 27)
      have TA := Lib.hid (hT.out.below ((Below.refl wr.heap.size wr).alloc (Nat.le_refl _) (.cells #[.bool (V k).t, .int .i64 (V k).r, .string (V k).q, .int .i64 (V k).a] 27)))
      have WO : Hid (∀ x, (x = tb ∨ o x) → x ≠ wr.heap.size) := Lib.hid (fun x hx => by rcases hx with rfl | hx; exact Nat.ne_of_lt hT.out.tab.lt; exact Nat.ne_of_lt (hT.out.tab.olt x hx))
      have HWS := Lib.hid (show wr.heap.size < (wr.alloc (.cells #[.bool (V k).t, .int .i64 (V k).r, .string (V k).q, .int .i64 (V k).a] 27)).heap.size by simp)
      generalize V k = v at *
      obtain ⟨vt, vr, vq, va⟩ := v
      simp only at c0 c1 c2 c3 AX TA HWS
      go_wp2_with fail
      generalize hwa : wr.alloc (.cells #[.bool vt, .int .i64 vr, .string vq, .int .i64 va] 27) = wa at *
      clear hwa
      generalize wr.heap.size = wo at *
      clear hT c0 c1 c2 c3
      go_loopw [11] (fun i wx => ∃ j : Nat, j ≤ nw ∧ i = .int .i64 j ∧ Hid (∀ i y, i < j → lo[i]? = some y → y.r ≠ vr) ∧ Hid (One w wx tb n lo lo o aw nw cw) ∧ Hid (AskAt wx wo 0 ⟨vt, vr, vq, va⟩) ∧ Hid (wo < wx.heap.size)) (fun i _ => nw - (intOf i).toNat)
      case atStart => exact ⟨0, Nat.zero_le _, rfl, Lib.hid (fun i y hi _ => absurd hi (by omega)), TA, AX, HWS⟩
      case round =>
        obtain ⟨j, hj, rfl, hno, hT, hAX, hws⟩ := hrel
        have x0 : wr.cell? ⟨wo, 0, none⟩ = some (.bool vt) := hAX.out.1
        have x1 : wr.cell? ⟨wo, 1, none⟩ = some (.int .i64 vr) := hAX.out.2.1
        have x2 : wr.cell? ⟨wo, 2, none⟩ = some (.string vq) := hAX.out.2.2.1
        have x3 : wr.cell? ⟨wo, 3, none⟩ = some (.int .i64 va) := hAX.out.2.2.2
        by_cases hjn : j < nw
        · have d1 : decide ((j : Int) < nw) = true := by simp; omega
          obtain ⟨y, hy⟩ : ∃ y, lo[j]? = some y := ⟨lo[j]'(by have := hT.out.len; omega), by simp⟩
          obtain ⟨g, offw, rfl, hg, y0, y1, y2, y3⟩ := own_at hT.out.sl hjn hy
          have HY := Lib.hid hy
          clear hy
          have j0 : (0 : Int) ≤ (j : Int) := Int.natCast_nonneg _
          have j1 : (j : Int) < (nw : Int) := by omega
          rcases hne : (y.r == vr) with _ | _
          rotate_left
          · have HNE := Lib.hid hne
            rcases vt with _ | _
            · go_wp2_with fail
              go_quiet (fail)
              have BD : Below wr.heap.size wr (wr.drewN nq) := ⟨rfl, rfl, rfl, Nat.le_refl _, fun _ _ => rfl⟩
              have T4 := Lib.hid (hT.out.below BD)
              have AX4 := Lib.hid (ask_below hAX.out BD hws.out)
              have WS4 : Hid (wo < (wr.drewN nq).heap.size) := hws
              clear BD x0 x1 x2 x3 hT hAX hws
              generalize wr.drewN nq = wq at *
              have x0 : wq.cell? ⟨wo, 0, none⟩ = some (.bool false) := AX4.out.1
              have x1 : wq.cell? ⟨wo, 1, none⟩ = some (.int .i64 vr) := AX4.out.2.1
              have x2 : wq.cell? ⟨wo, 2, none⟩ = some (.string vq) := AX4.out.2.2.1
              have x3 : wq.cell? ⟨wo, 3, none⟩ = some (.int .i64 va) := AX4.out.2.2.2
              go_wp2_with fail
              have hd3 : ((j : Int) == nw) = false := by simp; omega
              have HNO : Hid (∀ i z, i < j → (tabL lo)[i]? = some z → z.r ≠ vr) := Lib.hid (fun i z hi hz => by
                obtain ⟨x, hx, e⟩ := tabL_back hz
                rw [e]; exact hno.out i x hi hx)
              obtain ⟨yt, yr, yq, ya⟩ := y
              have HYR : Hid (yr = vr) := Lib.hid (by have := HNE.out; simpa using this)
              have HYT : Hid ((tabL lo)[j]? = some ⟨vr, .string yq, .int .i64 ya⟩) := Lib.hid (by rw [tabL_at HY.out]; rw [HYR.out])
              clear hne y0 y1 y2 y3
              by_cases hq : yq = vq
              · subst hq
                have q1 : (yq.toList == yq.toList) = true := by simp
                refine (seen_same_SI _ tb n (tabL lo) o T4.out.tab (by omega) vr yq j (.int .i64 ya) HYT.out HNO.out).mono ?_
                rintro e w7 ⟨rfl, b7⟩
                have A7 := Lib.hid (ask_below AX4.out b7 WS4.out)
                have T7 := Lib.hid (T4.out.below b7)
                obtain ⟨g2, o2, e2, hg2, u0, u1, u2, u3⟩ := own_at T7.out.sl hjn HY.out
                cases e2
                simp only at u0 u1 u2 u3
                have v2 : w7.cell? ⟨wo, 2, none⟩ = some (.string yq) := A7.out.2.2.1
                clear b7 x0 x1 x2 x3 u0 u1
                go_wp2_with fail
                go_quiet (fail)
                have T5 := Lib.hid (T7.out.below (w3 := w7.drewN nq) ⟨rfl, rfl, rfl, Nat.le_refl _, fun _ _ => rfl⟩)
                clear T7 T4 AX4
                go_wp2_with fail
                refine (len_SI _ tb n _ o T5.out.tab).mono ?_
                rw [tabL_len, T5.out.len]
                rintro e w8 ⟨rfl, rfl⟩
                go_wp2
                go_roundw
                case rel => exact ⟨k + 1, lo, o, _, nw, cw, by omega, by omega, hnw, by go_num, rfl, T5⟩
                case measure => simp [intOf]; omega
              · have HQ := Lib.hid hq
                have q1 : (yq.toList == vq.toList) = false := by rw [← beq_toListBytes]; exact Bool.eq_false_iff.2 (fun h => HQ.out ((MapKept.bytes_beq _ _).1 h))
                clear hq
                refine (seen_other_SI _ tb n (tabL lo) o T4.out.tab (by omega) vr vq yq j (.int .i64 ya) HQ.out HYT.out HNO.out).mono ?_
                rintro e w7 ⟨rfl, b7⟩
                have A7 := Lib.hid (ask_below AX4.out b7 WS4.out)
                have T7 := Lib.hid (T4.out.below b7)
                obtain ⟨g2, o2, e2, hg2, u0, u1, u2, u3⟩ := own_at T7.out.sl hjn HY.out
                cases e2
                simp only at u0 u1 u2 u3
                have v2 : w7.cell? ⟨wo, 2, none⟩ = some (.string vq) := A7.out.2.2.1
                clear b7 x0 x1 x2 x3 u0 u1
                go_wp2_with fail
                go_quiet (fail)
                have T5 := Lib.hid (T7.out.below (w3 := w7.drewN nq) ⟨rfl, rfl, rfl, Nat.le_refl _, fun _ _ => rfl⟩)
                clear T7 T4 AX4
                go_wp2_with fail
                refine (len_SI _ tb n _ o T5.out.tab).mono ?_
                rw [tabL_len, T5.out.len]
                rintro e w8 ⟨rfl, rfl⟩
                go_wp2
                go_roundw
                case rel => exact ⟨k + 1, lo, o, _, nw, cw, by omega, by omega, hnw, by go_num, rfl, T5⟩
                case measure => simp [intOf]; omega
            · go_wp2_with fail
              go_quiet (fail)
              have BD : Below wr.heap.size wr (wr.drewN nq) := ⟨rfl, rfl, rfl, Nat.le_refl _, fun _ _ => rfl⟩
              have T4 := Lib.hid (hT.out.below BD)
              have AX4 := Lib.hid (ask_below hAX.out BD hws.out)
              have WS4 : Hid (wo < (wr.drewN nq).heap.size) := hws
              clear BD x0 x1 x2 x3 hT hAX hws
              generalize wr.drewN nq = wq at *
              have x0 : wq.cell? ⟨wo, 0, none⟩ = some (.bool true) := AX4.out.1
              have x1 : wq.cell? ⟨wo, 1, none⟩ = some (.int .i64 vr) := AX4.out.2.1
              have x2 : wq.cell? ⟨wo, 2, none⟩ = some (.string vq) := AX4.out.2.2.1
              have x3 : wq.cell? ⟨wo, 3, none⟩ = some (.int .i64 va) := AX4.out.2.2.2
              go_wp2_with fail
              have HD3 : Hid (((j : Int) == nw) = false) := Lib.hid (by simp; omega)
              have TD := Lib.hid (T4.out.below (w3 := wq.drew) ⟨rfl, rfl, rfl, Nat.le_refl _, fun _ _ => rfl⟩)
              have AD : Hid (AskAt wq.drew wo 0 ⟨true, vr, vq, va⟩) := AX4
              have WD : Hid (wo < wq.drew.heap.size) := WS4
              by_cases hlow : vr < 1
              · have d2 : decide (0 < vr) = false := by simp; omega
                have L7 := Lib.hid hlow
                go_quiet ((go_at_call 10; exact Calls.quiet_of_same (tell_low_SI _ tb vr (.string vq) (.int .i64 va) L7.out)))
                have T5 := Lib.hid (T4.out.below (w3 := wq.drewN nq) ⟨rfl, rfl, rfl, Nat.le_refl _, fun _ _ => rfl⟩)
                clear T4 AX4 TD AD WS4 WD
                go_wp2_with fail
                refine (len_SI _ tb n _ o T5.out.tab).mono ?_
                rw [tabL_len, T5.out.len]
                rintro e w8 ⟨rfl, rfl⟩
                go_wp2
                go_roundw
                case rel => exact ⟨k + 1, lo, o, _, nw, cw, by omega, by omega, hnw, by go_num, rfl, T5⟩
                case measure => simp [intOf]; omega
              · have d2 : decide (0 < vr) = true := by simp; omega
                have d3 := HD3.out
                have EX : Hid (∃ x ∈ tabL lo, x.r = vr) := Lib.hid ⟨_, List.mem_of_getElem? (tabL_at HY.out), by have := HNE.out; simpa using this⟩
                go_region_held3 (fun w' => w'.cell? ⟨wo, 1, none⟩ = some (.int .i64 vr) ∧ w'.cell? ⟨wo, 2, none⟩ = some (.string vq) ∧ w'.cell? ⟨wo, 3, none⟩ = some (.int .i64 va))
                  (first | go_keep | exact ⟨z1, z2, z3⟩)
                  ((go_at_call 10; refine (tell_there_SI _ tb n (tabL lo) o (by exact TD.out.tab) (by omega) vr (.string vq) (.int .i64 va) (by omega) EX.out).mono ?_; rintro e w7 ⟨rfl, b7⟩; have A7 := Lib.hid (ask_below AD.out b7 WD.out); have T5 := Lib.hid (TD.out.below b7); have z1 : w7.cell? ⟨wo, 1, none⟩ = some (.int .i64 vr) := A7.out.2.1; have z2 : w7.cell? ⟨wo, 2, none⟩ = some (.string vq) := A7.out.2.2.1; have z3 : w7.cell? ⟨wo, 3, none⟩ = some (.int .i64 va) := A7.out.2.2.2; clear b7))
                go_wp2_with fail
                refine (len_SI _ tb n _ o T5.out.tab).mono ?_
                rw [tabL_len, T5.out.len]
                rintro e w8 ⟨rfl, rfl⟩
                go_wp2
                go_roundw
                case rel => exact ⟨k + 1, lo, o, _, nw, cw, by omega, by omega, hnw, by go_num, rfl, T5⟩
                case measure => simp [intOf]; omega
          · have HNE := Lib.hid hne
            go_wp2_with fail
            go_quiet (fail)
            have BD : Below wr.heap.size wr (wr.drewN nq) := ⟨rfl, rfl, rfl, Nat.le_refl _, fun _ _ => rfl⟩
            have T4 := Lib.hid (hT.out.below BD)
            have AX4 := Lib.hid (ask_below hAX.out BD hws.out)
            have WS4 : Hid (wo < (wr.drewN nq).heap.size) := hws
            clear BD
            go_wp2
            go_roundw
            case rel => exact ⟨j + 1, by omega, by go_num, Lib.hid (fun i z hi hz => by
              rcases Nat.lt_succ_iff_lt_or_eq.1 hi with h | h
              · exact hno.out i z h hz
              · subst h; rw [HY.out] at hz; cases hz; have := HNE.out; simpa using this), T4, AX4, WS4⟩
            case measure => simp [intOf]; omega
        · have d1 : decide ((j : Int) < nw) = false := by simp; omega
          rcases vt with _ | _
          · go_wp2_with fail
            go_quiet (fail)
            have BD : Below wr.heap.size wr (wr.drewN nq) := ⟨rfl, rfl, rfl, Nat.le_refl _, fun _ _ => rfl⟩
            have T4 := Lib.hid (hT.out.below BD)
            have AX4 := Lib.hid (ask_below hAX.out BD hws.out)
            have WS4 : Hid (wo < (wr.drewN nq).heap.size) := hws
            clear BD x0 x1 x2 x3 hT hAX hws
            generalize wr.drewN nq = wq at *
            have x0 : wq.cell? ⟨wo, 0, none⟩ = some (.bool false) := AX4.out.1
            have x1 : wq.cell? ⟨wo, 1, none⟩ = some (.int .i64 vr) := AX4.out.2.1
            have x2 : wq.cell? ⟨wo, 2, none⟩ = some (.string vq) := AX4.out.2.2.1
            have x3 : wq.cell? ⟨wo, 3, none⟩ = some (.int .i64 va) := AX4.out.2.2.2
            go_wp2_with fail
            have HD3 : ((j : Int) == nw) = true := by simp; omega
            have NX : Hid (∀ x ∈ tabL lo, x.r ≠ vr) := Lib.hid (fun x hx => by
              obtain ⟨y, hy, e⟩ := tabL_mem hx
              obtain ⟨i, hi, rfl⟩ := List.getElem_of_mem hy
              rw [e]
              exact hno.out i _ (by have := T4.out.len; omega) (by simp))
            refine (seen_new_SI _ tb n (tabL lo) o T4.out.tab (by omega) vr (.string vq) NX.out).mono ?_
            rintro e w7 ⟨rfl, b7⟩
            have T5 := Lib.hid (T4.out.below b7)
            clear b7 x0 x1 x2 x3 T4
            go_wp2_with fail
            refine (len_SI _ tb n _ o T5.out.tab).mono ?_
            rw [tabL_len, T5.out.len]
            rintro e w8 ⟨rfl, rfl⟩
            go_wp2
            go_roundw
            case rel => exact ⟨k + 1, lo, o, _, nw, cw, by omega, by omega, hnw, by go_num, rfl, T5⟩
            case measure => simp [intOf]; omega
          · go_wp2_with fail
            go_quiet (fail)
            have BD : Below wr.heap.size wr (wr.drewN nq) := ⟨rfl, rfl, rfl, Nat.le_refl _, fun _ _ => rfl⟩
            have T4 := Lib.hid (hT.out.below BD)
            have AX4 := Lib.hid (ask_below hAX.out BD hws.out)
            have WS4 : Hid (wo < (wr.drewN nq).heap.size) := hws
            clear BD x0 x1 x2 x3 hT hAX hws
            generalize wr.drewN nq = wq at *
            have x0 : wq.cell? ⟨wo, 0, none⟩ = some (.bool true) := AX4.out.1
            have x1 : wq.cell? ⟨wo, 1, none⟩ = some (.int .i64 vr) := AX4.out.2.1
            have x2 : wq.cell? ⟨wo, 2, none⟩ = some (.string vq) := AX4.out.2.2.1
            have x3 : wq.cell? ⟨wo, 3, none⟩ = some (.int .i64 va) := AX4.out.2.2.2
            go_wp2_with fail
            have HD3 : Hid (((j : Int) == nw) = true) := Lib.hid (by simp; omega)
            have TD := Lib.hid (T4.out.below (w3 := wq.drew) ⟨rfl, rfl, rfl, Nat.le_refl _, fun _ _ => rfl⟩)
            have AD : Hid (AskAt wq.drew wo 0 ⟨true, vr, vq, va⟩) := AX4
            have WD : Hid (wo < wq.drew.heap.size) := WS4
            by_cases hlow : vr < 1
            · have d2 : decide (0 < vr) = false := by simp; omega
              have L7 := Lib.hid hlow
              go_quiet ((go_at_call 10; exact Calls.quiet_of_same (tell_low_SI _ tb vr (.string vq) (.int .i64 va) L7.out)))
              have T5 := Lib.hid (T4.out.below (w3 := wq.drewN nq) ⟨rfl, rfl, rfl, Nat.le_refl _, fun _ _ => rfl⟩)
              clear T4 AX4 TD AD WS4 WD
              go_wp2_with fail
              refine (len_SI _ tb n _ o T5.out.tab).mono ?_
              rw [tabL_len, T5.out.len]
              rintro e w8 ⟨rfl, rfl⟩
              go_wp2
              go_roundw
              case rel => exact ⟨k + 1, lo, o, _, nw, cw, by omega, by omega, hnw, by go_num, rfl, T5⟩
              case measure => simp [intOf]; omega
            · have d2 : decide (0 < vr) = true := by simp; omega
              have d3 := HD3.out
              have NX : Hid (∀ x ∈ tabL lo, x.r ≠ vr) := Lib.hid (fun x hx => by
                obtain ⟨y, hy, e⟩ := tabL_mem hx
                obtain ⟨i, hi, rfl⟩ := List.getElem_of_mem hy
                rw [e]
                exact hno.out i _ (by have := TD.out.len; omega) (by simp))
              go_region_held3 (fun w' => w'.cell? ⟨wo, 1, none⟩ = some (.int .i64 vr) ∧ w'.cell? ⟨wo, 2, none⟩ = some (.string vq) ∧ w'.cell? ⟨wo, 3, none⟩ = some (.int .i64 va))
                (first | go_keep | exact ⟨z1, z2, z3⟩)
                ((go_at_call 10; refine (tell_ok_SI _ tb n (tabL lo) o (by exact TD.out.tab) (by omega) vr vq va (by omega) NX.out).mono ?_; rintro e w7 ⟨rfl, o7, t7, k7, ho7⟩; have A7 := Lib.hid (ask_kept AD.out k7 (fun h => WO.out wo h rfl) WD.out); have T7 := Lib.hid (t7); have K7 := Lib.hid k7; have O7 := Lib.hid ho7; have z1 : w7.cell? ⟨wo, 1, none⟩ = some (.int .i64 vr) := A7.out.2.1; have z2 : w7.cell? ⟨wo, 2, none⟩ = some (.string vq) := A7.out.2.2.1; have z3 : w7.cell? ⟨wo, 3, none⟩ = some (.int .i64 va) := A7.out.2.2.2; have z0 : w7.cell? ⟨wo, 0, none⟩ = some (.bool true) := A7.out.1; clear t7 k7 ho7))
              have T8 : Hid (One w w7 tb n ((lo ++ [Asked.mk true vr vq va]).drop (nw + 1 - n)) lo o7 aw nw cw) := Lib.hid (TD.out.tell (by have h := T7.out; rw [tabL_len, TD.out.len] at h; rw [show tabL ((lo ++ [Asked.mk true vr vq va]).drop (nw + 1 - n)) = (tabL lo ++ [T3.mk vr (.string vq) (.int .i64 va)]).drop (nw + 1 - n) by simp [tabL, Asked.t3]]; exact h) K7.out O7.out)
              have HS : Hid (Sl (w7.alloc (.cells #[.bool true, .int .i64 vr, .string vq, .int .i64 va] 27)) 27 4 aw nw cw (ownC lo)) := Lib.hid (T8.out.sl.kept ((Kept.refl (fun _ => False) w7).alloc _) (fun _ _ h => h))
              clear T7 K7 O7 TD T4 AX4 AD
              by_cases hnn : nw < n
              · have d4 : decide ((n : Int) < (nw : Int) + 1) = false := by simp; omega
                go_wp2_with (at_builtin; go_must (refine wpList_append_sl _ rfl _ _ 22 22 rfl 27 i0 (.agg #[.bool false, .int .i64 0, .string ⟨#[]⟩, .int .i64 0]) 4 40 Try.underlying22 HI.out HZ0.out HZ1.out HZ2.out rfl aw nw cw _ HS.out rfl _ rfl 1 [.bool true, .int .i64 vr, .string vq, .int .i64 va] (srcNew w7 Try.underlying22 [.bool true, .int .i64 vr, .string vq, .int .i64 va] 1 4 rfl (by simp [Value.oneCell']) 27) (by simp only [maxLen]; omega) (by omega) ?_); intro aw' cw' w9 hSl hKe hown; have T9 : Hid (One w w9 tb n ((lo ++ [Asked.mk true vr vq va]).drop (nw + 1 - n)) (lo ++ [Asked.mk true vr vq va]) o7 aw' (nw + 1) cw') := Lib.hid (T8.out.grow (e := Asked.mk true vr vq va) hSl hKe hown); clear hSl hKe hown)
                have T5 : Hid (One w w9 tb n (lo ++ [Asked.mk true vr vq va]) (lo ++ [Asked.mk true vr vq va]) o7 aw' (nw + 1) cw') := Lib.hid (by have h := T9.out; rw [show nw + 1 - n = 0 from by omega, List.drop_zero] at h; exact h)
                clear T9 HS T8
                go_wp2_with fail
                refine (len_SI _ tb n _ o7 T5.out.tab).mono ?_
                rw [tabL_len, T5.out.len]
                rintro e w8 ⟨rfl, rfl⟩
                go_wp2
                go_roundw
                case rel => exact ⟨k + 1, _, o7, _, nw + 1, _, by omega, by omega, by omega, by go_num, rfl, T5⟩
                case measure => simp [intOf]; omega
              · have d4 : decide ((n : Int) < (nw : Int) + 1) = true := by simp; omega
                go_wp2_with (at_builtin;  go_must (refine wpList_append_sl _ rfl _ _ 22 22 rfl 27 i0 (.agg #[.bool false, .int .i64 0, .string ⟨#[]⟩, .int .i64 0]) 4 40 Try.underlying22 HI.out HZ0.out HZ1.out HZ2.out rfl aw nw cw _ HS.out rfl _ rfl 1 [.bool true, .int .i64 vr, .string vq, .int .i64 va] (srcNew w7 Try.underlying22 [.bool true, .int .i64 vr, .string vq, .int .i64 va] 1 4 rfl (by simp [Value.oneCell']) 27) (by simp only [maxLen]; omega) (by omega) ?_); intro aw' cw' w9 hSl hKe hown; have T9 : Hid (One w w9 tb n ((lo ++ [Asked.mk true vr vq va]).drop (nw + 1 - n)) (lo ++ [Asked.mk true vr vq va]) o7 aw' (nw + 1) cw') := Lib.hid (T8.out.grow (e := Asked.mk true vr vq va) hSl hKe hown); have hsl := fun w => slice_own w aw' (nw + 1) cw' (by omega); clear hSl hKe hown)
                have T5 : Hid (One w w9 tb n ((lo ++ [Asked.mk true vr vq va]).drop 1) ((lo ++ [Asked.mk true vr vq va]).drop 1) o7 (adv aw' cw' 1 4) nw (cw' - 1)) := Lib.hid (by have h := T9.out.cut (by omega); rw [show nw + 1 - n = 1 from by omega, Nat.add_sub_cancel] at h; exact h)
                clear T9 HS T8
                go_wp2_with fail
                refine (len_SI _ tb n _ o7 T5.out.tab).mono ?_
                rw [tabL_len, T5.out.len]
                rintro e w8 ⟨rfl, rfl⟩
                go_wp2
                go_roundw
                case rel => exact ⟨k + 1, _, o7, _, nw, _, by omega, by omega, by omega, by go_num, rfl, T5⟩
                case measure => simp [intOf]; omega
    · go_wp2
      go_ret
      exact ⟨rfl, hT.out.bel⟩
    · go_wp2
      go_ret
      exact ⟨rfl, hT.out.bel⟩
end Go.Proofs.Ytooknplhfimieaa

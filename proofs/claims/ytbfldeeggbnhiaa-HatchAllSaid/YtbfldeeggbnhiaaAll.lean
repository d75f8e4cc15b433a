/- HatchAll returns true. Conditions: none. -/
import Derived.Test.YtbfldeeggbnhiaaOrder
import Derived.Test.YtbfldeeggbnhiaaArgs
namespace Go.Proofs.Ytbfldeeggbnhiaa
open Go.RowKit Go.Mem
section
variable {w wr w3 : World} {B2 : Nat} {p : HatP} {fs ss fs' ss' : List Value} {l l' : Nat} {af : Option Addr} {nf cf : Nat} {aS : Option Addr} {ns cs : Nat}
theorem Two.call2 (h : Two w wr B2 p fs ss l af nf cf aS ns cs) (h3 : Hat w3 p fs ss l') (hk : Kept p.has wr w3) : Two w w3 B2 p fs ss l' af nf cf aS ns cs := by
  obtain ⟨b3, z3, f3, s3⟩ := h.call hk
  exact ⟨h3, b3, z3, f3, s3, h.of, h.os, h.hp⟩
theorem Two.alloc (h : Two w wr B2 p fs ss l af nf cf aS ns cs) (o : Obj) : Two w (wr.alloc o) B2 p fs ss l af nf cf aS ns cs := by
  have k := (Kept.refl p.has wr).alloc o
  exact h.call2 (h.hat.kept ((Kept.refl (fun _ => False) wr).alloc o) (fun _ _ h => h)) k
theorem Two.drew (h : Two w wr B2 p fs ss l af nf cf aS ns cs) : Two w wr.drew B2 p fs ss l af nf cf aS ns cs := h.call2 (h.hat.same rfl) (Kept.refl _ _).drew
theorem Two.cutf {x : Value} (h : Two w wr B2 p (x :: fs) ss l af nf cf aS ns cs) (h3 : Hat w3 p fs ss l) (hk : Kept p.has wr w3) : Two w w3 B2 p fs ss l (adv af cf 1 1) (nf - 1) (cf - 1) aS ns cs := by
  obtain ⟨b3, z3, f3, s3⟩ := h.call hk
  have hl := h.lenf
  simp only [List.length_cons] at hl
  exact ⟨h3, b3, z3, by simpa using f3.cut (k := 1) (by omega), s3, fun y hy => h.of y (adv_owned hy), h.os, h.hp⟩
theorem Two.cuts {x : Value} (h : Two w wr B2 p fs (x :: ss) l af nf cf aS ns cs) (h3 : Hat w3 p fs ss l) (hk : Kept p.has wr w3) : Two w w3 B2 p fs ss l af nf cf (adv aS cs 1 1) (ns - 1) (cs - 1) := by
  obtain ⟨b3, z3, f3, s3⟩ := h.call hk
  have hl := h.lens
  simp only [List.length_cons] at hl
  exact ⟨h3, b3, z3, f3, by simpa using s3.cut (k := 1) (by omega), fun y hy => ⟨(h.of y hy).1, fun h2 => (h.of y hy).2 (adv_owned h2)⟩, fun y hy => h.os y (adv_owned hy), h.hp⟩
end
theorem cell_over {wr w3 : World} {x v : Value} {t : TypeId} {S : Nat → Prop} (hk : Kept S (wr.alloc (.cells #[x, v] t)) w3) (hs : ¬ S wr.heap.size) : w3.cell? ⟨wr.heap.size, 1, none⟩ = some v := by
  have h1 := hk.block wr.heap.size (by simp) hs
  rw [heap_alloc_new] at h1
  simp [World.cell?, h1]
def Ints (l : List Value) : Prop := ∀ u ∈ l, ∃ i : Int, u = .int .i64 i
theorem Ints.snoc {l : List Value} (h : Ints l) (i : Int) : Ints (l ++ [.int .i64 i]) := by
  intro u hu
  rcases List.mem_append.1 hu with h1 | h1
  · exact h u h1
  · exact ⟨i, by simpa using h1⟩
theorem Ints.tail {x : Value} {l : List Value} (h : Ints (x :: l)) : Ints l := fun u hu => h u (List.mem_cons_of_mem _ hu)
theorem slice22 (w : World) (ao : Option Addr) (n cap : Nat) (hn : 1 ≤ n) : (Instr.slice 22 (.slice ao n cap) (some (.int .i64 1)) none none).run Try.prog w = .ok (.slice (adv ao cap 1 1) (n - 1) (cap - 1)) w := by
  obtain ⟨i0, hi, hz0, hz1, hz2⟩ := info_parts info3
  have he : Try.prog.elem 22 = 3 := by simp [Program.elem, Try.underlying22]
  exact run_cut (P := Try.prog) 22 1 (by rw [he]; exact Try.underlying22) (fun w => by rw [he]; simp [sizeOf, typeInfo, hi, hz1]) ao n cap 1 hn w

set_option maxRecDepth 100000 in
set_option maxHeartbeats 4000000 in
theorem hatchAll_main (r : Int) (n : Nat) (hn : n = max 1 (min r.toNat 64)) (a0 : Option Addr) (len cap : Nat) (F G : Nat → Int) (w : World) (hA : Arg2 w a0 len (fun k => .int .i64 (F k)) (fun k => .int .i64 (G k))) :
    Calls Try.prog 4 #[.int .i64 r, .slice a0 len cap] w fun e w' => e = .returned (.bool true) ∧ Below w.heap.size w w' := by
  have HN := Lib.hid (fun w => new_int r n hn w)
  have hn1 : 1 ≤ n := by omega
  have hn2 : n ≤ 64 := by omega
  obtain ⟨R, hR⟩ : ∃ R : Int, R = (if (64 : Int) < r then 64 else r) := ⟨_, rfl⟩
  have hRn : (if R < 1 then 1 else R) = (n : Int) := by rw [hR]; omega
  have hmin : ∀ (w : World) ts t, (Builtin.min_ ts t #[.int .i64 r, .int .i64 64]).run Try.prog w = .ok (.int .i64 R) w := fun w ts t => by rw [run_min_int2, hR]
  have hmax : ∀ (w : World) ts t, (Builtin.max_ ts t #[.int .i64 1, .int .i64 R]).run Try.prog w = .ok (.int .i64 n) w := fun w ts t => by rw [run_max_int2, ← hRn]; congr 2; split <;> split <;> omega
  clear hn hR hRn
  have hm := hA.1
  unfold maxLen at hm
  have HA := Lib.hid hA
  obtain ⟨i0, hi, hz0, hz1, hz2⟩ := info_parts info3
  have HI := Lib.hid hi
  have HZ0 := Lib.hid hz0
  have HZ1 := Lib.hid hz1
  have HZ2 := Lib.hid hz2
  clear hA hi hz0 hz1 hz2
  go_enter Try.func4, Try.ntmps4
  go_wp2_with (go_at_call 9; refine (begun_true _).mono ?_; rintro e w1 ⟨rfl, B1⟩; have HB := Lib.hid B1; clear B1)
  refine (HN.out _).mono ?_
  rintro e w2 ⟨p, rfl, hn, h1, k1, hp⟩
  have T2 : Hid (Two w w2 w2.heap.size p [] [] 0 none 0 0 none 0 0) := Lib.hid (by
    have hb := HB.out.trans (k1.below (B := w.heap.size) HB.out.size (fun _ h => h.elim))
    exact ⟨h1, hb, ⟨hb.size, Nat.le_refl _⟩, Sl.nil _ _ _, Sl.nil _ _ _, fun x hx => absurd hx.1 (by omega), fun x hx => absurd hx.1 (by omega), fun x hx => ⟨Nat.le_trans HB.out.size (hp x hx), by rcases hx with rfl | rfl | rfl; exact h1.b; exact h1.c1; exact h1.c2⟩⟩)
  have HPN := Lib.hid hn
  generalize hB2 : w2.heap.size = B2 at T2
  clear hn h1 k1 hp HN HB hB2
  go_wp2
  clear hmin hmax
  go_loopw [8, 9, 10, 11] (fun vf vs vl i wr => ∃ (k : Nat) (fs ss : List Value) (l : Nat) (af : Option Addr) (nf cf : Nat) (aS : Option Addr) (ns cs : Nat), k ≤ len ∧ k ≤ 200 ∧ l ≤ k ∧ i = .int .i64 k ∧ vl = .int .i64 l ∧ vf = .slice af nf cf ∧ vs = .slice aS ns cs ∧ Hid (Two w wr B2 p fs ss l af nf cf aS ns cs) ∧ Hid (Ints fs) ∧ Hid (Ints ss)) (fun _ _ _ i _ => 200 - (intOf i).toNat)
  case atStart => exact ⟨0, [], [], 0, none, 0, 0, none, 0, 0, Nat.zero_le _, Nat.zero_le _, Nat.zero_le _, rfl, rfl, rfl, rfl, T2, Lib.hid (fun u hu => by simp at hu), Lib.hid (fun u hu => by simp at hu)⟩
  case round =>
    obtain ⟨k, fs, ss, l, af, nf, cf, aS, ns, cs, hk, hk2, hl, rfl, rfl, rfl, rfl, hT, hIf, hIs⟩ := hrel
    have hnf : nf ≤ n := by have := hT.out.lenf; have := hT.out.hat.fn; have := HPN.out; omega
    have hns : ns ≤ n := by have := hT.out.lens; have := hT.out.hat.sn; have := HPN.out; omega
    have hor : (k < len ∧ k < 200) ∨ len ≤ k ∨ (k < len ∧ 200 ≤ k) := by omega
    rcases hor with ⟨hl1, hl2⟩ | hl1 | ⟨hl1, hl2⟩
    · obtain ⟨b, off, rfl, hbl, hc⟩ := HA.out.2 (by omega)
      have hc0 : wr.cell? ⟨b, off + k * 2, none⟩ = some (.int .i64 (F k)) := (hT.out.bel.cell (p := ⟨b, off + k * 2, none⟩) hbl).trans (hc k hl1).1
      have hc1 : wr.cell? ⟨b, off + k * 2 + 1, none⟩ = some (.int .i64 (G k)) := (hT.out.bel.cell (p := ⟨b, off + (k * 2 + 1), none⟩) hbl).trans (hc k hl1).2
      clear hc
      generalize F k = f at hc0
      generalize G k = g at hc1
      by_cases hf0 : f = 0
      · subst hf0
        by_cases hroom : nf < n
        · have dk : decide ((nf : Int) < n) = true := by simp; omega
          have T1 := Lib.hid (hT.out.alloc (.cells #[.int .i64 0, .int .i64 g] 28))
          go_wp2_with fail
          refine (fast_ok_int (.int .i64 g) _ p _ _ _ T1.out.hat (by rw [HPN.out, T1.out.lenf]; omega)).mono ?_
          rintro e w3 ⟨rfl, h3, k3⟩
          have hcg : w3.cell? ⟨wr.heap.size, 1, none⟩ = some (.int .i64 g) := cell_over (x := .int .i64 0) k3 (fun hx => by have := (hT.out.hp _ hx).2; have := hT.out.siz.2; omega)
          have H3 := Lib.hid h3
          have K3 := Lib.hid k3
          have HS : Hid (Sl (w3.alloc (.cells #[.int .i64 g] 3)) 3 1 af nf cf fs) := Lib.hid ((T1.out.call k3).2.2.1.kept ((Kept.refl (fun _ => False) w3).alloc _) (fun _ _ h => h))
          clear h3 k3
          go_wp2_with (at_builtin; go_must (refine wpList_append_sl _ rfl _ _ 22 22 rfl 3 i0 (.int .i64 0) 1 8 Try.underlying22 HI.out HZ0.out HZ1.out HZ2.out rfl af nf cf _ HS.out rfl _ rfl 1 [.int .i64 g] (srcOne w3 Try.underlying22 (.int .i64 g) rfl 3) (by simp only [maxLen]; omega) (by omega) ?_); intro ao' cap' w5 hSl hKe hown; have HSL := Lib.hid hSl; have HKE := Lib.hid hKe; have HOW := Lib.hid hown; clear hSl hKe hown)
          have T5 := Lib.hid (T1.out.growf H3.out K3.out HSL.out HKE.out HOW.out)
          clear H3 K3 HSL HKE HOW HS hcg T1
          go_wp2_with fail
          refine (len_int _ p _ _ _ T5.out.hat).mono ?_
          rw [T5.out.lenf, T5.out.lens]
          rintro e w6 ⟨rfl, h6, k6⟩
          have T6 := Lib.hid (T5.out.call2 h6 k6)
          clear h6 k6
          go_wp2_with fail
          refine (lost_int _ p _ _ _ T6.out.hat).mono ?_
          rintro e w7 ⟨rfl, rfl⟩
          go_wp2
          go_roundw
          case rel => exact ⟨k + 1, fs ++ [.int .i64 g], ss, l, ao', nf + 1, cap', aS, ns, cs, by omega, by omega, by omega, by go_num, rfl, rfl, rfl, T6, Lib.hid (hIf.out.snoc g), hIs⟩
          case measure => simp [intOf]; omega
        · have dk : decide ((nf : Int) < n) = false := by simp; omega
          have T1 := Lib.hid (hT.out.alloc (.cells #[.int .i64 0, .int .i64 g] 28))
          go_wp2_with fail
          refine (fast_full_int (.int .i64 g) _ p _ _ _ T1.out.hat (by rw [HPN.out, T1.out.lenf]; omega) (by omega)).mono ?_
          rintro e w3 ⟨rfl, h3, k3⟩
          have T5 := Lib.hid (T1.out.call2 h3 k3)
          clear h3 k3 T1
          go_wp2_with fail
          refine (len_int _ p _ _ _ T5.out.hat).mono ?_
          rw [T5.out.lenf, T5.out.lens]
          rintro e w6 ⟨rfl, h6, k6⟩
          have T6 := Lib.hid (T5.out.call2 h6 k6)
          clear h6 k6
          go_wp2_with fail
          refine (lost_int _ p _ _ _ T6.out.hat).mono ?_
          rintro e w7 ⟨rfl, rfl⟩
          go_wp2
          go_roundw
          case rel => exact ⟨k + 1, fs, ss, l + 1, af, nf, cf, aS, ns, cs, by omega, by omega, by omega, by go_num, by go_num, rfl, rfl, T6, hIf, hIs⟩
          case measure => simp [intOf]; omega
      · by_cases hf1 : f = 1
        · subst hf1
          by_cases hroom : ns < n
          · have dk : decide ((ns : Int) < n) = true := by simp; omega
            have T1 := Lib.hid (hT.out.alloc (.cells #[.int .i64 1, .int .i64 g] 28))
            go_wp2_with fail
            refine (slow_ok_int (.int .i64 g) _ p _ _ _ T1.out.hat (by rw [HPN.out, T1.out.lens]; omega)).mono ?_
            rintro e w3 ⟨rfl, h3, k3⟩
            have hcg : w3.cell? ⟨wr.heap.size, 1, none⟩ = some (.int .i64 g) := cell_over (x := .int .i64 1) k3 (fun hx => by have := (hT.out.hp _ hx).2; have := hT.out.siz.2; omega)
            have H3 := Lib.hid h3
            have K3 := Lib.hid k3
            have HS : Hid (Sl (w3.alloc (.cells #[.int .i64 g] 3)) 3 1 aS ns cs ss) := Lib.hid ((T1.out.call k3).2.2.2.kept ((Kept.refl (fun _ => False) w3).alloc _) (fun _ _ h => h))
            clear h3 k3
            go_wp2_with (at_builtin; go_must (refine wpList_append_sl _ rfl _ _ 22 22 rfl 3 i0 (.int .i64 0) 1 8 Try.underlying22 HI.out HZ0.out HZ1.out HZ2.out rfl aS ns cs _ HS.out rfl _ rfl 1 [.int .i64 g] (srcOne w3 Try.underlying22 (.int .i64 g) rfl 3) (by simp only [maxLen]; omega) (by omega) ?_); intro ao' cap' w5 hSl hKe hown; have HSL := Lib.hid hSl; have HKE := Lib.hid hKe; have HOW := Lib.hid hown; clear hSl hKe hown)
            have T5 := Lib.hid (T1.out.grows H3.out K3.out HSL.out HKE.out HOW.out)
            clear H3 K3 HSL HKE HOW HS hcg T1
            go_wp2_with fail
            refine (len_int _ p _ _ _ T5.out.hat).mono ?_
            rw [T5.out.lenf, T5.out.lens]
            rintro e w6 ⟨rfl, h6, k6⟩
            have T6 := Lib.hid (T5.out.call2 h6 k6)
            clear h6 k6
            go_wp2_with fail
            refine (lost_int _ p _ _ _ T6.out.hat).mono ?_
            rintro e w7 ⟨rfl, rfl⟩
            go_wp2
            go_roundw
            case rel => exact ⟨k + 1, fs, ss ++ [.int .i64 g], l, af, nf, cf, ao', ns + 1, cap', by omega, by omega, by omega, by go_num, rfl, rfl, rfl, T6, hIf, Lib.hid (hIs.out.snoc g)⟩
            case measure => simp [intOf]; omega
          · have dk : decide ((ns : Int) < n) = false := by simp; omega
            have T1 := Lib.hid (hT.out.alloc (.cells #[.int .i64 1, .int .i64 g] 28))
            go_wp2_with fail
            refine (slow_full_int (.int .i64 g) _ p _ _ _ T1.out.hat (by rw [HPN.out, T1.out.lens]; omega) (by omega)).mono ?_
            rintro e w3 ⟨rfl, h3, k3⟩
            have T5 := Lib.hid (T1.out.call2 h3 k3)
            clear h3 k3 T1
            go_wp2_with fail
            refine (len_int _ p _ _ _ T5.out.hat).mono ?_
            rw [T5.out.lenf, T5.out.lens]
            rintro e w6 ⟨rfl, h6, k6⟩
            have T6 := Lib.hid (T5.out.call2 h6 k6)
            clear h6 k6
            go_wp2_with fail
            refine (lost_int _ p _ _ _ T6.out.hat).mono ?_
            rintro e w7 ⟨rfl, rfl⟩
            go_wp2
            go_roundw
            case rel => exact ⟨k + 1, fs, ss, l + 1, af, nf, cf, aS, ns, cs, by omega, by omega, by omega, by go_num, by go_num, rfl, rfl, T6, hIf, hIs⟩
            case measure => simp [intOf]; omega
        · have d0 : (f == 0) = false := by simpa using hf0
          have d1 : (f == 1) = false := by simpa using hf1
          clear hf0 hf1
          have T1 := Lib.hid (hT.out.alloc (.cells #[.int .i64 f, .int .i64 g] 28))
          clear hT
          rcases fs with _ | ⟨x, fs⟩
          · have hn0 := T1.out.lenf
            simp only [List.length_nil] at hn0
            subst hn0
            rcases ss with _ | ⟨x, ss⟩
            · have hn0 := T1.out.lens
              simp only [List.length_nil] at hn0
              subst hn0
              go_wp2_with fail
              refine (take0_int _ p _ T1.out.hat).mono ?_
              rintro e w3 ⟨rfl, h3, k3⟩
              have T5 := Lib.hid (T1.out.call2 h3 k3)
              clear h3 k3 T1
              go_wp2_with fail
              refine (len_int _ p _ _ _ T5.out.hat).mono ?_
              rw [T5.out.lenf]
              rintro e w6 ⟨rfl, h6, k6⟩
              have T6 := Lib.hid (T5.out.call2 h6 k6)
              clear h6 k6
              go_wp2_with fail
              refine (lost_int _ p _ _ _ T6.out.hat).mono ?_
              rintro e w7 ⟨rfl, rfl⟩
              go_wp2
              go_roundw
              case rel => exact ⟨k + 1, [], [], l, af, 0, cf, aS, 0, cs, by omega, by omega, by omega, by go_num, rfl, rfl, rfl, T6, hIf, hIs⟩
              case measure => simp [intOf]; omega
            · obtain ⟨q, rfl⟩ := hIs.out x (List.mem_cons_self)
              have hn1 := T1.out.lens
              simp only [List.length_cons] at hn1
              have hpos : 1 ≤ ns := by omega
              clear hn1
              have d1 : decide ((0 : Int) < ns) = true := by simp; omega
              have d2 : decide (0 < ns) = true := by simp; omega
              have hsl := fun w => slice22 w aS ns cs hpos
              go_wp2_with fail
              refine (takes_int (.int .i64 q) _ p _ _ T1.out.hat).mono ?_
              rintro e w3 ⟨rfl, h3, k3⟩
              have T5 := Lib.hid (T1.out.cuts h3 k3)
              obtain ⟨gb, go, rfl, hcell, _⟩ := (T1.out.call k3).2.2.2.cell (k := 0) (by omega)
              simp only [List.getElem?_cons_zero, Nat.add_zero] at hcell
              clear h3 k3 T1
              go_wp2_with fail
              go_region
              all_goals
                have T5 := Lib.hid (T5.out.drew)
                go_wp2_with fail
                refine (len_int _ p _ _ _ T5.out.hat).mono ?_
                rw [T5.out.lenf, T5.out.lens]
                rintro e w6 ⟨rfl, h6, k6⟩
                have T6 := Lib.hid (T5.out.call2 h6 k6)
                clear h6 k6
                go_wp2_with fail
                refine (lost_int _ p _ _ _ T6.out.hat).mono ?_
                rintro e w7 ⟨rfl, rfl⟩
                go_wp2
                go_roundw
                case rel => exact ⟨k + 1, [], ss, l, af, 0, cf, _, _, _, by omega, by omega, by omega, by go_num, rfl, rfl, rfl, T6, hIf, Lib.hid hIs.out.tail⟩
                case measure => simp [intOf]; omega
          · obtain ⟨q, rfl⟩ := hIf.out x (List.mem_cons_self)
            have hn1 := T1.out.lenf
            simp only [List.length_cons] at hn1
            have hpos : 1 ≤ nf := by omega
            clear hn1
            have d1 : decide ((0 : Int) < (nf : Int) + ns) = true := by simp; omega
            have d2 : decide (0 < nf) = true := by simp; omega
            have hsl := fun w => slice22 w af nf cf hpos
            go_wp2_with fail
            refine (takef_int (.int .i64 q) _ p _ _ _ T1.out.hat).mono ?_
            rintro e w3 ⟨rfl, h3, k3⟩
            have T5 := Lib.hid (T1.out.cutf h3 k3)
            obtain ⟨gb, go, rfl, hcell, _⟩ := (T1.out.call k3).2.2.1.cell (k := 0) (by omega)
            simp only [List.getElem?_cons_zero, Nat.add_zero] at hcell
            clear h3 k3 T1
            go_wp2_with fail
            go_region
            all_goals
              have T5 := Lib.hid (T5.out.drew)
              go_wp2_with fail
              refine (len_int _ p _ _ _ T5.out.hat).mono ?_
              rw [T5.out.lenf, T5.out.lens]
              rintro e w6 ⟨rfl, h6, k6⟩
              have T6 := Lib.hid (T5.out.call2 h6 k6)
              clear h6 k6
              go_wp2_with fail
              refine (lost_int _ p _ _ _ T6.out.hat).mono ?_
              rintro e w7 ⟨rfl, rfl⟩
              go_wp2
              go_roundw
              case rel => exact ⟨k + 1, fs, ss, l, _, _, _, aS, ns, cs, by omega, by omega, by omega, by go_num, rfl, rfl, rfl, T6, Lib.hid hIf.out.tail, hIs⟩
              case measure => simp [intOf]; omega
    · go_wp2
      go_ret
      exact ⟨rfl, hT.out.bel⟩
    · go_wp2
      go_ret
      exact ⟨rfl, hT.out.bel⟩
end Go.Proofs.Ytbfldeeggbnhiaa

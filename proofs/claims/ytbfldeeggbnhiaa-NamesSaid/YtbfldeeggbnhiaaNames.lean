/- The law Names returns true: every name of api has the number that the document gives it; nothing in memory that was there is changed. Conditions: none. -/
import Derived.Test.YtbfldeeggbnhiaaRows
import Derived.WalkKit
import Derived.WalkSpells
import Derived.WalkLawsBesides
import Derived.Lib.Hide
import Derived.ProofKit
import Derived.OpenShut
namespace Go.Proofs.Ytbfldeeggbnhiaa.names
open Go.ChangeShapes Go.WideShapes Go.ChangeAt Go.RowKit
def nameL : List Int := [0, 1, 2, 3, 4, 5, 6, 7, 8, 9, 10, 11, 12, 8, 60, 8, 12, 6, 200, 10, 2000, 4000, 2000, 1048576, 400, 1099511627776, 64, 6, 3, 3, 4294967296, 1, 2, 3, 4, 5, 6, 7, 8, 9, 1, 2, 3, 4, 5, 1, 2, 3, 4, 5, 6, 7, 8, 1, 2, 3, 4, 5, 1, 2, 3, 4, 5, 6, 7, 8]
def namesRel (w wr : World) : Prop := Grown w wr ∧ ∀ k, k < 66 → wr.cell? ⟨w.heap.size, k, none⟩ = some (.int .i64 (nameL.getD k 0)) ∧ wr.cell? ⟨w.heap.size + 1, k, none⟩ = some (.int .i64 (nameL.getD k 0))
theorem namesRel_drew {w wr : World} (h : namesRel w wr) : namesRel w wr.drew := ⟨h.1.drew, h.2⟩
theorem namesRel_start (w : World) (c : Array Value) (t : TypeId) (hc : c = (nameL.map (Value.int .i64)).toArray) : namesRel w ((w.alloc (.cells c t)).alloc (.cells c t)) := by
  subst hc
  refine ⟨((Grown.refl _).alloc _ _).alloc _ _, fun k hk => ?_⟩
  have hk' : k < nameL.length := hk
  constructor
  · rw [World.cell?_alloc_past _ _ _ (by simp), World.cell?_alloc_new]
    simp [hk']
  · have := World.cell?_alloc_new (w := w.alloc (.cells (nameL.map (Value.int .i64)).toArray t)) (nameL.map (Value.int .i64)).toArray t k
    rw [World.size_alloc] at this
    rw [this]; simp [hk']
set_option maxHeartbeats 400000 in
theorem walk  (w : World) :
    Calls Try.prog 3 #[] w fun e w' => e = .returned (.bool true) ∧ Grown w w' := by
  go_enter Try.func3, Try.ntmps3
  go_wp2
  go_loopw [3] (fun i wr => ∃ k : Nat, k ≤ 66 ∧ i = .int .i64 k ∧ namesRel w wr) (fun i _ => 66 - (intOf i).toNat)
  case atStart => exact ⟨0, Nat.zero_le _, rfl, namesRel_start _ _ _ rfl⟩
  case round =>
    obtain ⟨k, hk, rfl, hr⟩ := hrel
    by_cases hlt : k < 66
    · have h1 := (hr.2 k hlt).1
      have h2 := (hr.2 k hlt).2
      have hR := Lib.hid hr
      clear hr
      go_wp2
      go_region
      go_wp2
      go_roundw
      case rel => exact ⟨k + 1, by omega, by go_num, namesRel_drew hR.out⟩
      case measure => simp [intOf]; omega
    · have hR := Lib.hid hr
      clear hr
      go_wp2
      go_ret
      exact ⟨rfl, hR.out.1⟩
theorem own : ownKnob Try.prog.godebug = none := by kernel_rfl

set_option maxRecDepth 100000 in
theorem lifted (os : Os) (started : os.Started) (H : Type) (enc : TypeId × Value → H) :
    ReturnsInHanded {} Try.checked os 3 .any (Rows.namesSpec.pre6 enc Try.prog Try.f3 Rows.namesRow.domain false) (Rows.namesSpec.post enc Try.prog Try.f3 false true false false) := by
  refine returnsInHanded_of_change (C := Try.checked) own started (by kernel_rfl) Try.func3
    (ChangeSpec.witness6 (enc := enc) (C := Try.checked) false ⟨#[], #[], []⟩ 8 (by kernel_rfl) (by kernel_rfl) (by kernel_rfl) (by kernel_rfl)) ?_
  intro W base args ds gs before hval0 hW hcnd _
  have hval : ∀ (j : Nat) t v, Try.f3.params[j]? = some t → args[j]? = some v → Value.okWide Try.prog W .any base t v := hval0
  have hW' := hW
  obtain ⟨p, q, hA0, hV, rfl, hfz, hnd⟩ := hW
  have hA : DataW.TrodAll enc Try.prog W 0 (fun _ => true) true Try.f3.params.toList args.toList ds p := hA0
  rw [Try.params3] at hA hval
  obtain ⟨rfl, rfl, rfl⟩ := trodAll_none hA
  obtain ⟨rfl, rfl⟩ := trodVars_none hV
  clear hA0 hval0
  simp only [List.append_nil] at hW'
  refine (walk W).mono fun e W' ⟨he, hg⟩ => ?_
  subst he
  exact ⟨_, rfl, post_of_same (pa := []) (pv := []) hW' (fun _ _ _ => (trodAll_cons_mk (shut_bool Try.underlying4 _) trodAll_mk0)) (fun sp _ => rfl) (fun _ _ => rfl) rfl
    (hg.frame _) hg.2.1 (ok_one (by kernel_rfl) rfl (okWide_bool_mk Try.underlying4 _))⟩

theorem over : Rows.namesRow.holds Try.pinned (OpenSpec.ofChange Rows.namesSpec) :=
  OpenClaim.holds_of_wide 3 Try.f3 rfl rfl rfl rfl rfl rfl rfl ⟨rfl, rfl, rfl, rfl, rfl⟩ rfl rfl rfl rfl rfl (by kernel_rfl) Try.func3 (by kernel_rfl)
    (of_decide_eq_true (by kernel_rfl)) (by unfold Func.isWrapper; first | (rw [if_pos (by decide +kernel)]; kernel_rfl) | (rw [if_neg (by decide +kernel)]; exact ⟨rfl, rfl⟩))
    (fun os started H enc _ => lifted os started H enc)

theorem proved : Rows.NamesSaid :=
  over
#print axioms proved
end Go.Proofs.Ytbfldeeggbnhiaa.names

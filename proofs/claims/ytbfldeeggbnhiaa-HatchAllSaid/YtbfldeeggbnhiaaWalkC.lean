/- The walks of hatch's put and Take, at the three element types, in one goroutine: what each does to the channels' blocks. Conditions: the hatch is not nil, its channels are open. -/
import Derived.Test.YtbfldeeggbnhiaaChecked
import Derived.Conc.LoneCalls
import Derived.Conc.LoneSelect
import Derived.KernelRfl
import Derived.Laws.Rows
import Derived.IntWalk
namespace Go.Proofs.Ytbfldeeggbnhiaa
open Go.Conc Go.RowKit
set_option maxRecDepth 100000 in
theorem put_room_int (hb : Addr) (c n s r : Nat) (buf : Array Value) (x : Value) (w : World) (hc : w.heap[c]? = some (.chan n buf false s r false)) (hr : buf.size < n) :
    Calls Try.prog 28 #[.pointer (some hb), .chan (some c), x] w fun e w' => e = .returned (.bool true) ∧ w' = w.setChan c n (buf.push x) false (s + 1) r false := by
  refine calls_of_loneTo fun cs => ?_
  have e : Frame.enter Try.prog 28 #[.pointer (some hb), .chan (some c), x] .normal = (base 28).at ⟨#[.pointer (some hb), .chan (some c), x, undef, undef, undef, undef, undef, undef, undef, undef, undef, undef, undef, undef, undef, undef, undef, undef], []⟩ [.code (Try.f28.body.getD .skip)] := by
    simp [Frame.enter, Frame.at, Try.func28, base, Try.f28]
  rw [e]
  refine LoneTo.goes (n := 40) ?_
  simp only [Try.f28, Option.getD_some]
  s_c stepG_seq
  s_reg
  s_op
  s_c stepG_region_end
  s_c stepG_seq
  s_c stepG_seq
  s_reg
  s_op
  s_c stepG_region_end
  s_reg
  s_op
  s_c stepG_region_end
  s_c stepG_seq
  s_reg
  s_stop
  refine LoneTo.step (step_lone_select_send_room (c := c) (v := x) (z' := (.int .i64 0)) (cap := n) (buf := buf) (s := s) (r := r) (tm := false) (stepG_comm (cases := #[scase c x (.int .i64 0)]) (blocking := false) (shape := .select) (w' := w) rfl rfl (by decide) (by simp [go_sem, execOp, scase, Act.eval])) hc hr) ?_
  rw [Frame.finish_at]
  walk_nrm
  refine LoneTo.goes (n := 40) ?_
  s_op
  s_op
  s_c stepG_region_end
  s_c stepG_block
  s_cond true
  s_c stepG_seq
  s_reg
  s_op
  s_c stepG_region_end
  s_c stepG_ret'
  s_stop
  exact LoneTo.done ⟨.returned (.bool true), _, rfl, ⟨rfl, rfl⟩, rfl, rfl, rfl, rfl, _, Try.func28, by simp [results, Try.f28, Frame.at]⟩
set_option maxRecDepth 100000 in
theorem put_full_int (hb : Addr) (c n s r : Nat) (buf : Array Value) (x : Value) (lost : Int) (w : World) (hc : w.heap[c]? = some (.chan n buf false s r false)) (hr : n ≤ buf.size)
    (hl : w.cell? ⟨hb.block, hb.off + 2, none⟩ = some (.int .i64 lost)) (hf : w.frozen? ⟨hb.block, hb.off + 2, none⟩ = false) (hsp : hb.spot = none) (h0 : 0 ≤ lost) (h1 : lost < 9223372036854775807) :
    Calls Try.prog 28 #[.pointer (some hb), .chan (some c), x] w fun e w' => e = .returned (.bool false) ∧ w' = w.setCell ⟨hb.block, hb.off + 2, none⟩ (.int .i64 (lost + 1)) := by
  have hw1 : IntKind.i64.wrap (lost + 1) = lost + 1 := IntWalk.i64_in _ (by omega)
  obtain ⟨hb, ho, hsp'⟩ := hb
  simp only at hsp hl hf
  subst hsp
  refine calls_of_loneTo fun cs => ?_
  have e : Frame.enter Try.prog 28 #[.pointer (some ⟨hb, ho, none⟩), .chan (some c), x] .normal = (base 28).at ⟨#[.pointer (some ⟨hb, ho, none⟩), .chan (some c), x, undef, undef, undef, undef, undef, undef, undef, undef, undef, undef, undef, undef, undef, undef, undef, undef], []⟩ [.code (Try.f28.body.getD .skip)] := by
    simp [Frame.enter, Frame.at, Try.func28, base, Try.f28]
  rw [e]
  refine LoneTo.goes (n := 40) ?_
  simp only [Try.f28, Option.getD_some]
  s_c stepG_seq
  s_reg
  s_op
  s_c stepG_region_end
  s_c stepG_seq
  s_c stepG_seq
  s_reg
  s_op
  s_c stepG_region_end
  s_reg
  s_op
  s_c stepG_region_end
  s_c stepG_seq
  s_reg
  s_stop
  refine LoneTo.step (step_lone_select_send_full (c := c) (v := x) (z' := (.int .i64 0)) (cap := n) (buf := buf) (s := s) (r := r) (tm := false) (stepG_comm (cases := #[scase c x (.int .i64 0)]) (blocking := false) (shape := .select) (w' := w) rfl rfl (by decide) (by simp [go_sem, execOp, scase, Act.eval])) hc hr) ?_
  rw [Frame.finish_at]
  walk_nrm
  refine LoneTo.goes (n := 40) ?_
  s_op
  s_op
  s_c stepG_region_end
  s_c stepG_block
  s_cond false
  s_c stepG_seq
  s_reg
  s_op
  s_op
  s_op
  s_op
  s_op
  s_op
  s_op
  s_op
  s_c stepG_region_end
  s_c stepG_seq
  s_reg
  s_op
  s_c stepG_region_end
  s_c stepG_ret'
  s_stop
  exact LoneTo.done ⟨.returned (.bool false), _, rfl, ⟨rfl, rfl⟩, rfl, rfl, rfl, rfl, _, Try.func28, by simp [results, Try.f28, Frame.at]⟩
set_option maxRecDepth 100000 in
theorem put_room_bool (hb : Addr) (c n s r : Nat) (buf : Array Value) (x : Value) (w : World) (hc : w.heap[c]? = some (.chan n buf false s r false)) (hr : buf.size < n) :
    Calls Try.prog 29 #[.pointer (some hb), .chan (some c), x] w fun e w' => e = .returned (.bool true) ∧ w' = w.setChan c n (buf.push x) false (s + 1) r false := by
  refine calls_of_loneTo fun cs => ?_
  have e : Frame.enter Try.prog 29 #[.pointer (some hb), .chan (some c), x] .normal = (base 29).at ⟨#[.pointer (some hb), .chan (some c), x, undef, undef, undef, undef, undef, undef, undef, undef, undef, undef, undef, undef, undef, undef, undef, undef], []⟩ [.code (Try.f29.body.getD .skip)] := by
    simp [Frame.enter, Frame.at, Try.func29, base, Try.f29]
  rw [e]
  refine LoneTo.goes (n := 40) ?_
  simp only [Try.f29, Option.getD_some]
  s_c stepG_seq
  s_reg
  s_op
  s_c stepG_region_end
  s_c stepG_seq
  s_c stepG_seq
  s_reg
  s_op
  s_c stepG_region_end
  s_reg
  s_op
  s_c stepG_region_end
  s_c stepG_seq
  s_reg
  s_stop
  refine LoneTo.step (step_lone_select_send_room (c := c) (v := x) (z' := (.bool false)) (cap := n) (buf := buf) (s := s) (r := r) (tm := false) (stepG_comm (cases := #[scase c x (.bool false)]) (blocking := false) (shape := .select) (w' := w) rfl rfl (by decide) (by simp [go_sem, execOp, scase, Act.eval])) hc hr) ?_
  rw [Frame.finish_at]
  walk_nrm
  refine LoneTo.goes (n := 40) ?_
  s_op
  s_op
  s_c stepG_region_end
  s_c stepG_block
  s_cond true
  s_c stepG_seq
  s_reg
  s_op
  s_c stepG_region_end
  s_c stepG_ret'
  s_stop
  exact LoneTo.done ⟨.returned (.bool true), _, rfl, ⟨rfl, rfl⟩, rfl, rfl, rfl, rfl, _, Try.func29, by simp [results, Try.f29, Frame.at]⟩
set_option maxRecDepth 100000 in
theorem put_full_bool (hb : Addr) (c n s r : Nat) (buf : Array Value) (x : Value) (lost : Int) (w : World) (hc : w.heap[c]? = some (.chan n buf false s r false)) (hr : n ≤ buf.size)
    (hl : w.cell? ⟨hb.block, hb.off + 2, none⟩ = some (.int .i64 lost)) (hf : w.frozen? ⟨hb.block, hb.off + 2, none⟩ = false) (hsp : hb.spot = none) (h0 : 0 ≤ lost) (h1 : lost < 9223372036854775807) :
    Calls Try.prog 29 #[.pointer (some hb), .chan (some c), x] w fun e w' => e = .returned (.bool false) ∧ w' = w.setCell ⟨hb.block, hb.off + 2, none⟩ (.int .i64 (lost + 1)) := by
  have hw1 : IntKind.i64.wrap (lost + 1) = lost + 1 := IntWalk.i64_in _ (by omega)
  obtain ⟨hb, ho, hsp'⟩ := hb
  simp only at hsp hl hf
  subst hsp
  refine calls_of_loneTo fun cs => ?_
  have e : Frame.enter Try.prog 29 #[.pointer (some ⟨hb, ho, none⟩), .chan (some c), x] .normal = (base 29).at ⟨#[.pointer (some ⟨hb, ho, none⟩), .chan (some c), x, undef, undef, undef, undef, undef, undef, undef, undef, undef, undef, undef, undef, undef, undef, undef, undef], []⟩ [.code (Try.f29.body.getD .skip)] := by
    simp [Frame.enter, Frame.at, Try.func29, base, Try.f29]
  rw [e]
  refine LoneTo.goes (n := 40) ?_
  simp only [Try.f29, Option.getD_some]
  s_c stepG_seq
  s_reg
  s_op
  s_c stepG_region_end
  s_c stepG_seq
  s_c stepG_seq
  s_reg
  s_op
  s_c stepG_region_end
  s_reg
  s_op
  s_c stepG_region_end
  s_c stepG_seq
  s_reg
  s_stop
  refine LoneTo.step (step_lone_select_send_full (c := c) (v := x) (z' := (.bool false)) (cap := n) (buf := buf) (s := s) (r := r) (tm := false) (stepG_comm (cases := #[scase c x (.bool false)]) (blocking := false) (shape := .select) (w' := w) rfl rfl (by decide) (by simp [go_sem, execOp, scase, Act.eval])) hc hr) ?_
  rw [Frame.finish_at]
  walk_nrm
  refine LoneTo.goes (n := 40) ?_
  s_op
  s_op
  s_c stepG_region_end
  s_c stepG_block
  s_cond false
  s_c stepG_seq
  s_reg
  s_op
  s_op
  s_op
  s_op
  s_op
  s_op
  s_op
  s_op
  s_c stepG_region_end
  s_c stepG_seq
  s_reg
  s_op
  s_c stepG_region_end
  s_c stepG_ret'
  s_stop
  exact LoneTo.done ⟨.returned (.bool false), _, rfl, ⟨rfl, rfl⟩, rfl, rfl, rfl, rfl, _, Try.func29, by simp [results, Try.f29, Frame.at]⟩
set_option maxRecDepth 100000 in
theorem put_room_string (hb : Addr) (c n s r : Nat) (buf : Array Value) (x : Value) (w : World) (hc : w.heap[c]? = some (.chan n buf false s r false)) (hr : buf.size < n) :
    Calls Try.prog 30 #[.pointer (some hb), .chan (some c), x] w fun e w' => e = .returned (.bool true) ∧ w' = w.setChan c n (buf.push x) false (s + 1) r false := by
  refine calls_of_loneTo fun cs => ?_
  have e : Frame.enter Try.prog 30 #[.pointer (some hb), .chan (some c), x] .normal = (base 30).at ⟨#[.pointer (some hb), .chan (some c), x, undef, undef, undef, undef, undef, undef, undef, undef, undef, undef, undef, undef, undef, undef, undef, undef], []⟩ [.code (Try.f30.body.getD .skip)] := by
    simp [Frame.enter, Frame.at, Try.func30, base, Try.f30]
  rw [e]
  refine LoneTo.goes (n := 40) ?_
  simp only [Try.f30, Option.getD_some]
  s_c stepG_seq
  s_reg
  s_op
  s_c stepG_region_end
  s_c stepG_seq
  s_c stepG_seq
  s_reg
  s_op
  s_c stepG_region_end
  s_reg
  s_op
  s_c stepG_region_end
  s_c stepG_seq
  s_reg
  s_stop
  refine LoneTo.step (step_lone_select_send_room (c := c) (v := x) (z' := (.string ⟨#[]⟩)) (cap := n) (buf := buf) (s := s) (r := r) (tm := false) (stepG_comm (cases := #[scase c x (.string ⟨#[]⟩)]) (blocking := false) (shape := .select) (w' := w) rfl rfl (by decide) (by simp [go_sem, execOp, scase, Act.eval])) hc hr) ?_
  rw [Frame.finish_at]
  walk_nrm
  refine LoneTo.goes (n := 40) ?_
  s_op
  s_op
  s_c stepG_region_end
  s_c stepG_block
  s_cond true
  s_c stepG_seq
  s_reg
  s_op
  s_c stepG_region_end
  s_c stepG_ret'
  s_stop
  exact LoneTo.done ⟨.returned (.bool true), _, rfl, ⟨rfl, rfl⟩, rfl, rfl, rfl, rfl, _, Try.func30, by simp [results, Try.f30, Frame.at]⟩
set_option maxRecDepth 100000 in
theorem put_full_string (hb : Addr) (c n s r : Nat) (buf : Array Value) (x : Value) (lost : Int) (w : World) (hc : w.heap[c]? = some (.chan n buf false s r false)) (hr : n ≤ buf.size)
    (hl : w.cell? ⟨hb.block, hb.off + 2, none⟩ = some (.int .i64 lost)) (hf : w.frozen? ⟨hb.block, hb.off + 2, none⟩ = false) (hsp : hb.spot = none) (h0 : 0 ≤ lost) (h1 : lost < 9223372036854775807) :
    Calls Try.prog 30 #[.pointer (some hb), .chan (some c), x] w fun e w' => e = .returned (.bool false) ∧ w' = w.setCell ⟨hb.block, hb.off + 2, none⟩ (.int .i64 (lost + 1)) := by
  have hw1 : IntKind.i64.wrap (lost + 1) = lost + 1 := IntWalk.i64_in _ (by omega)
  obtain ⟨hb, ho, hsp'⟩ := hb
  simp only at hsp hl hf
  subst hsp
  refine calls_of_loneTo fun cs => ?_
  have e : Frame.enter Try.prog 30 #[.pointer (some ⟨hb, ho, none⟩), .chan (some c), x] .normal = (base 30).at ⟨#[.pointer (some ⟨hb, ho, none⟩), .chan (some c), x, undef, undef, undef, undef, undef, undef, undef, undef, undef, undef, undef, undef, undef, undef, undef, undef], []⟩ [.code (Try.f30.body.getD .skip)] := by
    simp [Frame.enter, Frame.at, Try.func30, base, Try.f30]
  rw [e]
  refine LoneTo.goes (n := 40) ?_
  simp only [Try.f30, Option.getD_some]
  s_c stepG_seq
  s_reg
  s_op
  s_c stepG_region_end
  s_c stepG_seq
  s_c stepG_seq
  s_reg
  s_op
  s_c stepG_region_end
  s_reg
  s_op
  s_c stepG_region_end
  s_c stepG_seq
  s_reg
  s_stop
  refine LoneTo.step (step_lone_select_send_full (c := c) (v := x) (z' := (.string ⟨#[]⟩)) (cap := n) (buf := buf) (s := s) (r := r) (tm := false) (stepG_comm (cases := #[scase c x (.string ⟨#[]⟩)]) (blocking := false) (shape := .select) (w' := w) rfl rfl (by decide) (by simp [go_sem, execOp, scase, Act.eval])) hc hr) ?_
  rw [Frame.finish_at]
  walk_nrm
  refine LoneTo.goes (n := 40) ?_
  s_op
  s_op
  s_c stepG_region_end
  s_c stepG_block
  s_cond false
  s_c stepG_seq
  s_reg
  s_op
  s_op
  s_op
  s_op
  s_op
  s_op
  s_op
  s_op
  s_c stepG_region_end
  s_c stepG_seq
  s_reg
  s_op
  s_c stepG_region_end
  s_c stepG_ret'
  s_stop
  exact LoneTo.done ⟨.returned (.bool false), _, rfl, ⟨rfl, rfl⟩, rfl, rfl, rfl, rfl, _, Try.func30, by simp [results, Try.f30, Frame.at]⟩
set_option maxRecDepth 100000 in
theorem take_fast_int (hb c1 n s r : Nat) (x : Value) (buf : List Value) (w : World) (h0 : w.cell? ⟨hb, 0, none⟩ = some (.chan (some c1))) (hc1 : w.heap[c1]? = some (.chan n (x :: buf).toArray false s r false)) :
    Calls Try.prog 13 #[.pointer (some ⟨hb, 0, none⟩)] w fun e w' => e = .returned (.tuple #[x, .bool true]) ∧ w' = w.setChan c1 n buf.toArray false s (r + 1) false := by
  refine calls_of_loneTo fun cs => ?_
  have e : Frame.enter Try.prog 13 #[.pointer (some ⟨hb, 0, none⟩)] .normal = (base 13).at ⟨#[.pointer (some ⟨hb, 0, none⟩), undef, undef, undef, undef, undef, undef, undef, undef, undef, undef, undef, undef, undef, undef, undef, undef, undef, undef, undef, undef, undef, undef, undef, undef, undef, undef, undef, undef], []⟩ [.code (Try.f13.body.getD .skip)] := by
    simp [Frame.enter, Frame.at, Try.func13, base, Try.f13]
  rw [e]
  refine LoneTo.goes (n := 60) ?_
  simp only [Try.f13, Option.getD_some]
  s_c stepG_seq
  s_reg
  s_op
  s_op
  s_c stepG_region_end
  s_c stepG_seq
  s_reg
  s_op
  s_c stepG_region_end
  s_c stepG_seq
  s_c stepG_seq
  s_reg
  s_op
  s_op
  s_c stepG_region_end
  s_cond false
  s_c stepG_skip
  s_c stepG_seq
  s_c stepG_seq
  s_reg
  s_op
  s_op
  s_op
  s_op
  s_c stepG_region_end
  s_c stepG_seq
  s_reg
  s_stop
  refine LoneTo.step (step_lone_select_recv_buf (c := c1) (z := (.int .i64 0)) (cap := n) (buf := (x :: buf).toArray) (closed := false) (s := s) (r := r) (tm := false) (stepG_comm (cases := #[rcase c1 (.int .i64 0)]) (blocking := false) (shape := .select) (w' := w) rfl rfl (by decide) (by simp [go_sem, execOp, rcase, Act.eval])) hc1 (by simp)) ?_
  rw [Frame.finish_at]
  walk_nrm
  refine LoneTo.goes (n := 60) ?_
  s_op
  s_op
  s_c stepG_region_end
  s_c stepG_block
  s_cond true
  s_c stepG_seq
  s_reg
  s_op
  s_op
  s_c stepG_region_end
  s_c stepG_seq
  s_reg
  s_op
  s_op
  s_op
  s_c stepG_region_end
  s_c stepG_ret'
  s_stop
  exact LoneTo.done ⟨.returned (.tuple #[x, .bool true]), _, rfl, ⟨rfl, by simp⟩, rfl, rfl, rfl, rfl, _, Try.func13, by simp [results, Try.f13, Frame.at]⟩
set_option maxRecDepth 100000 in
theorem take_slow_int (hb c1 c2 n s1 r1 s2 r2 : Nat) (x : Value) (buf : List Value) (w : World) (h0 : w.cell? ⟨hb, 0, none⟩ = some (.chan (some c1))) (h1 : w.cell? ⟨hb, 1, none⟩ = some (.chan (some c2))) (hc1 : w.heap[c1]? = some (.chan n #[] false s1 r1 false)) (hc2 : w.heap[c2]? = some (.chan n (x :: buf).toArray false s2 r2 false)) :
    Calls Try.prog 13 #[.pointer (some ⟨hb, 0, none⟩)] w fun e w' => e = .returned (.tuple #[x, .bool true]) ∧ w' = w.setChan c2 n buf.toArray false s2 (r2 + 1) false := by
  refine calls_of_loneTo fun cs => ?_
  have e : Frame.enter Try.prog 13 #[.pointer (some ⟨hb, 0, none⟩)] .normal = (base 13).at ⟨#[.pointer (some ⟨hb, 0, none⟩), undef, undef, undef, undef, undef, undef, undef, undef, undef, undef, undef, undef, undef, undef, undef, undef, undef, undef, undef, undef, undef, undef, undef, undef, undef, undef, undef, undef], []⟩ [.code (Try.f13.body.getD .skip)] := by
    simp [Frame.enter, Frame.at, Try.func13, base, Try.f13]
  rw [e]
  refine LoneTo.goes (n := 60) ?_
  simp only [Try.f13, Option.getD_some]
  s_c stepG_seq
  s_reg
  s_op
  s_op
  s_c stepG_region_end
  s_c stepG_seq
  s_reg
  s_op
  s_c stepG_region_end
  s_c stepG_seq
  s_c stepG_seq
  s_reg
  s_op
  s_op
  s_c stepG_region_end
  s_cond false
  s_c stepG_skip
  s_c stepG_seq
  s_c stepG_seq
  s_reg
  s_op
  s_op
  s_op
  s_op
  s_c stepG_region_end
  s_c stepG_seq
  s_reg
  s_stop
  refine LoneTo.step (step_lone_select_default (c := c1) (z := (.int .i64 0)) (cap := n) (s := s1) (r := r1) (tm := false) (stepG_comm (cases := #[rcase c1 (.int .i64 0)]) (blocking := false) (shape := .select) (w' := w) rfl rfl (by decide) (by simp [go_sem, execOp, rcase, Act.eval])) hc1) ?_
  rw [Frame.finish_at]
  walk_nrm
  refine LoneTo.goes (n := 60) ?_
  s_op
  s_op
  s_c stepG_region_end
  s_c stepG_block
  s_cond false
  s_c stepG_skip
  s_c stepG_inBlock
  s_c stepG_seq
  s_reg
  s_op
  s_op
  s_op
  s_op
  s_c stepG_region_end
  s_c stepG_seq
  s_reg
  s_stop
  refine LoneTo.step (step_lone_select_recv_buf (c := c2) (z := (.int .i64 0)) (cap := n) (buf := (x :: buf).toArray) (closed := false) (s := s2) (r := r2) (tm := false) (stepG_comm (cases := #[rcase c2 (.int .i64 0)]) (blocking := false) (shape := .select) (w' := w) rfl rfl (by decide) (by simp [go_sem, execOp, rcase, Act.eval])) hc2 (by simp)) ?_
  rw [Frame.finish_at]
  walk_nrm
  refine LoneTo.goes (n := 60) ?_
  s_op
  s_op
  s_c stepG_region_end
  s_c stepG_block
  s_cond true
  s_c stepG_seq
  s_reg
  s_op
  s_op
  s_c stepG_region_end
  s_c stepG_seq
  s_reg
  s_op
  s_op
  s_op
  s_c stepG_region_end
  s_c stepG_ret'
  s_stop
  exact LoneTo.done ⟨.returned (.tuple #[x, .bool true]), _, rfl, ⟨rfl, by simp⟩, rfl, rfl, rfl, rfl, _, Try.func13, by simp [results, Try.f13, Frame.at]⟩
set_option maxRecDepth 100000 in
theorem take_none_int (hb c1 c2 n s1 r1 s2 r2 : Nat) (w : World) (h0 : w.cell? ⟨hb, 0, none⟩ = some (.chan (some c1))) (h1 : w.cell? ⟨hb, 1, none⟩ = some (.chan (some c2))) (hc1 : w.heap[c1]? = some (.chan n #[] false s1 r1 false)) (hc2 : w.heap[c2]? = some (.chan n #[] false s2 r2 false)) :
    Calls Try.prog 13 #[.pointer (some ⟨hb, 0, none⟩)] w fun e w' => e = .returned (.tuple #[(.int .i64 0), .bool false]) ∧ w' = w := by
  refine calls_of_loneTo fun cs => ?_
  have e : Frame.enter Try.prog 13 #[.pointer (some ⟨hb, 0, none⟩)] .normal = (base 13).at ⟨#[.pointer (some ⟨hb, 0, none⟩), undef, undef, undef, undef, undef, undef, undef, undef, undef, undef, undef, undef, undef, undef, undef, undef, undef, undef, undef, undef, undef, undef, undef, undef, undef, undef, undef, undef], []⟩ [.code (Try.f13.body.getD .skip)] := by
    simp [Frame.enter, Frame.at, Try.func13, base, Try.f13]
  rw [e]
  refine LoneTo.goes (n := 60) ?_
  simp only [Try.f13, Option.getD_some]
  s_c stepG_seq
  s_reg
  s_op
  s_op
  s_c stepG_region_end
  s_c stepG_seq
  s_reg
  s_op
  s_c stepG_region_end
  s_c stepG_seq
  s_c stepG_seq
  s_reg
  s_op
  s_op
  s_c stepG_region_end
  s_cond false
  s_c stepG_skip
  s_c stepG_seq
  s_c stepG_seq
  s_reg
  s_op
  s_op
  s_op
  s_op
  s_c stepG_region_end
  s_c stepG_seq
  s_reg
  s_stop
  refine LoneTo.step (step_lone_select_default (c := c1) (z := (.int .i64 0)) (cap := n) (s := s1) (r := r1) (tm := false) (stepG_comm (cases := #[rcase c1 (.int .i64 0)]) (blocking := false) (shape := .select) (w' := w) rfl rfl (by decide) (by simp [go_sem, execOp, rcase, Act.eval])) hc1) ?_
  rw [Frame.finish_at]
  walk_nrm
  refine LoneTo.goes (n := 60) ?_
  s_op
  s_op
  s_c stepG_region_end
  s_c stepG_block
  s_cond false
  s_c stepG_skip
  s_c stepG_inBlock
  s_c stepG_seq
  s_reg
  s_op
  s_op
  s_op
  s_op
  s_c stepG_region_end
  s_c stepG_seq
  s_reg
  s_stop
  refine LoneTo.step (step_lone_select_default (c := c2) (z := (.int .i64 0)) (cap := n) (s := s2) (r := r2) (tm := false) (stepG_comm (cases := #[rcase c2 (.int .i64 0)]) (blocking := false) (shape := .select) (w' := w) rfl rfl (by decide) (by simp [go_sem, execOp, rcase, Act.eval])) hc2) ?_
  rw [Frame.finish_at]
  walk_nrm
  refine LoneTo.goes (n := 60) ?_
  s_op
  s_op
  s_c stepG_region_end
  s_c stepG_block
  s_cond false
  s_c stepG_seq
  s_reg
  s_op
  s_op
  s_op
  s_c stepG_region_end
  s_c stepG_ret'
  s_stop
  exact LoneTo.done ⟨.returned (.tuple #[(.int .i64 0), .bool false]), _, rfl, ⟨rfl, rfl⟩, rfl, rfl, rfl, rfl, _, Try.func13, by simp [results, Try.f13, Frame.at]⟩
set_option maxRecDepth 100000 in
theorem take_fast_bool (hb c1 n s r : Nat) (x : Value) (buf : List Value) (w : World) (h0 : w.cell? ⟨hb, 0, none⟩ = some (.chan (some c1))) (hc1 : w.heap[c1]? = some (.chan n (x :: buf).toArray false s r false)) :
    Calls Try.prog 20 #[.pointer (some ⟨hb, 0, none⟩)] w fun e w' => e = .returned (.tuple #[x, .bool true]) ∧ w' = w.setChan c1 n buf.toArray false s (r + 1) false := by
  refine calls_of_loneTo fun cs => ?_
  have e : Frame.enter Try.prog 20 #[.pointer (some ⟨hb, 0, none⟩)] .normal = (base 20).at ⟨#[.pointer (some ⟨hb, 0, none⟩), undef, undef, undef, undef, undef, undef, undef, undef, undef, undef, undef, undef, undef, undef, undef, undef, undef, undef, undef, undef, undef, undef, undef, undef, undef, undef, undef, undef], []⟩ [.code (Try.f20.body.getD .skip)] := by
    simp [Frame.enter, Frame.at, Try.func20, base, Try.f20]
  rw [e]
  refine LoneTo.goes (n := 60) ?_
  simp only [Try.f20, Option.getD_some]
  s_c stepG_seq
  s_reg
  s_op
  s_op
  s_c stepG_region_end
  s_c stepG_seq
  s_reg
  s_op
  s_c stepG_region_end
  s_c stepG_seq
  s_c stepG_seq
  s_reg
  s_op
  s_op
  s_c stepG_region_end
  s_cond false
  s_c stepG_skip
  s_c stepG_seq
  s_c stepG_seq
  s_reg
  s_op
  s_op
  s_op
  s_op
  s_c stepG_region_end
  s_c stepG_seq
  s_reg
  s_stop
  refine LoneTo.step (step_lone_select_recv_buf (c := c1) (z := (.bool false)) (cap := n) (buf := (x :: buf).toArray) (closed := false) (s := s) (r := r) (tm := false) (stepG_comm (cases := #[rcase c1 (.bool false)]) (blocking := false) (shape := .select) (w' := w) rfl rfl (by decide) (by simp [go_sem, execOp, rcase, Act.eval])) hc1 (by simp)) ?_
  rw [Frame.finish_at]
  walk_nrm
  refine LoneTo.goes (n := 60) ?_
  s_op
  s_op
  s_c stepG_region_end
  s_c stepG_block
  s_cond true
  s_c stepG_seq
  s_reg
  s_op
  s_op
  s_c stepG_region_end
  s_c stepG_seq
  s_reg
  s_op
  s_op
  s_op
  s_c stepG_region_end
  s_c stepG_ret'
  s_stop
  exact LoneTo.done ⟨.returned (.tuple #[x, .bool true]), _, rfl, ⟨rfl, by simp⟩, rfl, rfl, rfl, rfl, _, Try.func20, by simp [results, Try.f20, Frame.at]⟩
set_option maxRecDepth 100000 in
theorem take_slow_bool (hb c1 c2 n s1 r1 s2 r2 : Nat) (x : Value) (buf : List Value) (w : World) (h0 : w.cell? ⟨hb, 0, none⟩ = some (.chan (some c1))) (h1 : w.cell? ⟨hb, 1, none⟩ = some (.chan (some c2))) (hc1 : w.heap[c1]? = some (.chan n #[] false s1 r1 false)) (hc2 : w.heap[c2]? = some (.chan n (x :: buf).toArray false s2 r2 false)) :
    Calls Try.prog 20 #[.pointer (some ⟨hb, 0, none⟩)] w fun e w' => e = .returned (.tuple #[x, .bool true]) ∧ w' = w.setChan c2 n buf.toArray false s2 (r2 + 1) false := by
  refine calls_of_loneTo fun cs => ?_
  have e : Frame.enter Try.prog 20 #[.pointer (some ⟨hb, 0, none⟩)] .normal = (base 20).at ⟨#[.pointer (some ⟨hb, 0, none⟩), undef, undef, undef, undef, undef, undef, undef, undef, undef, undef, undef, undef, undef, undef, undef, undef, undef, undef, undef, undef, undef, undef, undef, undef, undef, undef, undef, undef], []⟩ [.code (Try.f20.body.getD .skip)] := by
    simp [Frame.enter, Frame.at, Try.func20, base, Try.f20]
  rw [e]
  refine LoneTo.goes (n := 60) ?_
  simp only [Try.f20, Option.getD_some]
  s_c stepG_seq
  s_reg
  s_op
  s_op
  s_c stepG_region_end
  s_c stepG_seq
  s_reg
  s_op
  s_c stepG_region_end
  s_c stepG_seq
  s_c stepG_seq
  s_reg
  s_op
  s_op
  s_c stepG_region_end
  s_cond false
  s_c stepG_skip
  s_c stepG_seq
  s_c stepG_seq
  s_reg
  s_op
  s_op
  s_op
  s_op
  s_c stepG_region_end
  s_c stepG_seq
  s_reg
  s_stop
  refine LoneTo.step (step_lone_select_default (c := c1) (z := (.bool false)) (cap := n) (s := s1) (r := r1) (tm := false) (stepG_comm (cases := #[rcase c1 (.bool false)]) (blocking := false) (shape := .select) (w' := w) rfl rfl (by decide) (by simp [go_sem, execOp, rcase, Act.eval])) hc1) ?_
  rw [Frame.finish_at]
  walk_nrm
  refine LoneTo.goes (n := 60) ?_
  s_op
  s_op
  s_c stepG_region_end
  s_c stepG_block
  s_cond false
  s_c stepG_skip
  s_c stepG_inBlock
  s_c stepG_seq
  s_reg
  s_op
  s_op
  s_op
  s_op
  s_c stepG_region_end
  s_c stepG_seq
  s_reg
  s_stop
  refine LoneTo.step (step_lone_select_recv_buf (c := c2) (z := (.bool false)) (cap := n) (buf := (x :: buf).toArray) (closed := false) (s := s2) (r := r2) (tm := false) (stepG_comm (cases := #[rcase c2 (.bool false)]) (blocking := false) (shape := .select) (w' := w) rfl rfl (by decide) (by simp [go_sem, execOp, rcase, Act.eval])) hc2 (by simp)) ?_
  rw [Frame.finish_at]
  walk_nrm
  refine LoneTo.goes (n := 60) ?_
  s_op
  s_op
  s_c stepG_region_end
  s_c stepG_block
  s_cond true
  s_c stepG_seq
  s_reg
  s_op
  s_op
  s_c stepG_region_end
  s_c stepG_seq
  s_reg
  s_op
  s_op
  s_op
  s_c stepG_region_end
  s_c stepG_ret'
  s_stop
  exact LoneTo.done ⟨.returned (.tuple #[x, .bool true]), _, rfl, ⟨rfl, by simp⟩, rfl, rfl, rfl, rfl, _, Try.func20, by simp [results, Try.f20, Frame.at]⟩
set_option maxRecDepth 100000 in
theorem take_none_bool (hb c1 c2 n s1 r1 s2 r2 : Nat) (w : World) (h0 : w.cell? ⟨hb, 0, none⟩ = some (.chan (some c1))) (h1 : w.cell? ⟨hb, 1, none⟩ = some (.chan (some c2))) (hc1 : w.heap[c1]? = some (.chan n #[] false s1 r1 false)) (hc2 : w.heap[c2]? = some (.chan n #[] false s2 r2 false)) :
    Calls Try.prog 20 #[.pointer (some ⟨hb, 0, none⟩)] w fun e w' => e = .returned (.tuple #[(.bool false), .bool false]) ∧ w' = w := by
  refine calls_of_loneTo fun cs => ?_
  have e : Frame.enter Try.prog 20 #[.pointer (some ⟨hb, 0, none⟩)] .normal = (base 20).at ⟨#[.pointer (some ⟨hb, 0, none⟩), undef, undef, undef, undef, undef, undef, undef, undef, undef, undef, undef, undef, undef, undef, undef, undef, undef, undef, undef, undef, undef, undef, undef, undef, undef, undef, undef, undef], []⟩ [.code (Try.f20.body.getD .skip)] := by
    simp [Frame.enter, Frame.at, Try.func20, base, Try.f20]
  rw [e]
  refine LoneTo.goes (n := 60) ?_
  simp only [Try.f20, Option.getD_some]
  s_c stepG_seq
  s_reg
  s_op
  s_op
  s_c stepG_region_end
  s_c stepG_seq
  s_reg
  s_op
  s_c stepG_region_end
  s_c stepG_seq
  s_c stepG_seq
  s_reg
  s_op
  s_op
  s_c stepG_region_end
  s_cond false
  s_c stepG_skip
  s_c stepG_seq
  s_c stepG_seq
  s_reg
  s_op
  s_op
  s_op
  s_op
  s_c stepG_region_end
  s_c stepG_seq
  s_reg
  s_stop
  refine LoneTo.step (step_lone_select_default (c := c1) (z := (.bool false)) (cap := n) (s := s1) (r := r1) (tm := false) (stepG_comm (cases := #[rcase c1 (.bool false)]) (blocking := false) (shape := .select) (w' := w) rfl rfl (by decide) (by simp [go_sem, execOp, rcase, Act.eval])) hc1) ?_
  rw [Frame.finish_at]
  walk_nrm
  refine LoneTo.goes (n := 60) ?_
  s_op
  s_op
  s_c stepG_region_end
  s_c stepG_block
  s_cond false
  s_c stepG_skip
  s_c stepG_inBlock
  s_c stepG_seq
  s_reg
  s_op
  s_op
  s_op
  s_op
  s_c stepG_region_end
  s_c stepG_seq
  s_reg
  s_stop
  refine LoneTo.step (step_lone_select_default (c := c2) (z := (.bool false)) (cap := n) (s := s2) (r := r2) (tm := false) (stepG_comm (cases := #[rcase c2 (.bool false)]) (blocking := false) (shape := .select) (w' := w) rfl rfl (by decide) (by simp [go_sem, execOp, rcase, Act.eval])) hc2) ?_
  rw [Frame.finish_at]
  walk_nrm
  refine LoneTo.goes (n := 60) ?_
  s_op
  s_op
  s_c stepG_region_end
  s_c stepG_block
  s_cond false
  s_c stepG_seq
  s_reg
  s_op
  s_op
  s_op
  s_c stepG_region_end
  s_c stepG_ret'
  s_stop
  exact LoneTo.done ⟨.returned (.tuple #[(.bool false), .bool false]), _, rfl, ⟨rfl, rfl⟩, rfl, rfl, rfl, rfl, _, Try.func20, by simp [results, Try.f20, Frame.at]⟩
set_option maxRecDepth 100000 in
theorem take_fast_string (hb c1 n s r : Nat) (x : Value) (buf : List Value) (w : World) (h0 : w.cell? ⟨hb, 0, none⟩ = some (.chan (some c1))) (hc1 : w.heap[c1]? = some (.chan n (x :: buf).toArray false s r false)) :
    Calls Try.prog 24 #[.pointer (some ⟨hb, 0, none⟩)] w fun e w' => e = .returned (.tuple #[x, .bool true]) ∧ w' = w.setChan c1 n buf.toArray false s (r + 1) false := by
  refine calls_of_loneTo fun cs => ?_
  have e : Frame.enter Try.prog 24 #[.pointer (some ⟨hb, 0, none⟩)] .normal = (base 24).at ⟨#[.pointer (some ⟨hb, 0, none⟩), undef, undef, undef, undef, undef, undef, undef, undef, undef, undef, undef, undef, undef, undef, undef, undef, undef, undef, undef, undef, undef, undef, undef, undef, undef, undef, undef, undef], []⟩ [.code (Try.f24.body.getD .skip)] := by
    simp [Frame.enter, Frame.at, Try.func24, base, Try.f24]
  rw [e]
  refine LoneTo.goes (n := 60) ?_
  simp only [Try.f24, Option.getD_some]
  s_c stepG_seq
  s_reg
  s_op
  s_op
  s_c stepG_region_end
  s_c stepG_seq
  s_reg
  s_op
  s_c stepG_region_end
  s_c stepG_seq
  s_c stepG_seq
  s_reg
  s_op
  s_op
  s_c stepG_region_end
  s_cond false
  s_c stepG_skip
  s_c stepG_seq
  s_c stepG_seq
  s_reg
  s_op
  s_op
  s_op
  s_op
  s_c stepG_region_end
  s_c stepG_seq
  s_reg
  s_stop
  refine LoneTo.step (step_lone_select_recv_buf (c := c1) (z := (.string ⟨#[]⟩)) (cap := n) (buf := (x :: buf).toArray) (closed := false) (s := s) (r := r) (tm := false) (stepG_comm (cases := #[rcase c1 (.string ⟨#[]⟩)]) (blocking := false) (shape := .select) (w' := w) rfl rfl (by decide) (by simp [go_sem, execOp, rcase, Act.eval])) hc1 (by simp)) ?_
  rw [Frame.finish_at]
  walk_nrm
  refine LoneTo.goes (n := 60) ?_
  s_op
  s_op
  s_c stepG_region_end
  s_c stepG_block
  s_cond true
  s_c stepG_seq
  s_reg
  s_op
  s_op
  s_c stepG_region_end
  s_c stepG_seq
  s_reg
  s_op
  s_op
  s_op
  s_c stepG_region_end
  s_c stepG_ret'
  s_stop
  exact LoneTo.done ⟨.returned (.tuple #[x, .bool true]), _, rfl, ⟨rfl, by simp⟩, rfl, rfl, rfl, rfl, _, Try.func24, by simp [results, Try.f24, Frame.at]⟩
set_option maxRecDepth 100000 in
theorem take_slow_string (hb c1 c2 n s1 r1 s2 r2 : Nat) (x : Value) (buf : List Value) (w : World) (h0 : w.cell? ⟨hb, 0, none⟩ = some (.chan (some c1))) (h1 : w.cell? ⟨hb, 1, none⟩ = some (.chan (some c2))) (hc1 : w.heap[c1]? = some (.chan n #[] false s1 r1 false)) (hc2 : w.heap[c2]? = some (.chan n (x :: buf).toArray false s2 r2 false)) :
    Calls Try.prog 24 #[.pointer (some ⟨hb, 0, none⟩)] w fun e w' => e = .returned (.tuple #[x, .bool true]) ∧ w' = w.setChan c2 n buf.toArray false s2 (r2 + 1) false := by
  refine calls_of_loneTo fun cs => ?_
  have e : Frame.enter Try.prog 24 #[.pointer (some ⟨hb, 0, none⟩)] .normal = (base 24).at ⟨#[.pointer (some ⟨hb, 0, none⟩), undef, undef, undef, undef, undef, undef, undef, undef, undef, undef, undef, undef, undef, undef, undef, undef, undef, undef, undef, undef, undef, undef, undef, undef, undef, undef, undef, undef], []⟩ [.code (Try.f24.body.getD .skip)] := by
    simp [Frame.enter, Frame.at, Try.func24, base, Try.f24]
  rw [e]
  refine LoneTo.goes (n := 60) ?_
  simp only [Try.f24, Option.getD_some]
  s_c stepG_seq
  s_reg
  s_op
  s_op
  s_c stepG_region_end
  s_c stepG_seq
  s_reg
  s_op
  s_c stepG_region_end
  s_c stepG_seq
  s_c stepG_seq
  s_reg
  s_op
  s_op
  s_c stepG_region_end
  s_cond false
  s_c stepG_skip
  s_c stepG_seq
  s_c stepG_seq
  s_reg
  s_op
  s_op
  s_op
  s_op
  s_c stepG_region_end
  s_c stepG_seq
  s_reg
  s_stop
  refine LoneTo.step (step_lone_select_default (c := c1) (z := (.string ⟨#[]⟩)) (cap := n) (s := s1) (r := r1) (tm := false) (stepG_comm (cases := #[rcase c1 (.string ⟨#[]⟩)]) (blocking := false) (shape := .select) (w' := w) rfl rfl (by decide) (by simp [go_sem, execOp, rcase, Act.eval])) hc1) ?_
  rw [Frame.finish_at]
  walk_nrm
  refine LoneTo.goes (n := 60) ?_
  s_op
  s_op
  s_c stepG_region_end
  s_c stepG_block
  s_cond false
  s_c stepG_skip
  s_c stepG_inBlock
  s_c stepG_seq
  s_reg
  s_op
  s_op
  s_op
  s_op
  s_c stepG_region_end
  s_c stepG_seq
  s_reg
  s_stop
  refine LoneTo.step (step_lone_select_recv_buf (c := c2) (z := (.string ⟨#[]⟩)) (cap := n) (buf := (x :: buf).toArray) (closed := false) (s := s2) (r := r2) (tm := false) (stepG_comm (cases := #[rcase c2 (.string ⟨#[]⟩)]) (blocking := false) (shape := .select) (w' := w) rfl rfl (by decide) (by simp [go_sem, execOp, rcase, Act.eval])) hc2 (by simp)) ?_
  rw [Frame.finish_at]
  walk_nrm
  refine LoneTo.goes (n := 60) ?_
  s_op
  s_op
  s_c stepG_region_end
  s_c stepG_block
  s_cond true
  s_c stepG_seq
  s_reg
  s_op
  s_op
  s_c stepG_region_end
  s_c stepG_seq
  s_reg
  s_op
  s_op
  s_op
  s_c stepG_region_end
  s_c stepG_ret'
  s_stop
  exact LoneTo.done ⟨.returned (.tuple #[x, .bool true]), _, rfl, ⟨rfl, by simp⟩, rfl, rfl, rfl, rfl, _, Try.func24, by simp [results, Try.f24, Frame.at]⟩
set_option maxRecDepth 100000 in
theorem take_none_string (hb c1 c2 n s1 r1 s2 r2 : Nat) (w : World) (h0 : w.cell? ⟨hb, 0, none⟩ = some (.chan (some c1))) (h1 : w.cell? ⟨hb, 1, none⟩ = some (.chan (some c2))) (hc1 : w.heap[c1]? = some (.chan n #[] false s1 r1 false)) (hc2 : w.heap[c2]? = some (.chan n #[] false s2 r2 false)) :
    Calls Try.prog 24 #[.pointer (some ⟨hb, 0, none⟩)] w fun e w' => e = .returned (.tuple #[(.string ⟨#[]⟩), .bool false]) ∧ w' = w := by
  refine calls_of_loneTo fun cs => ?_
  have e : Frame.enter Try.prog 24 #[.pointer (some ⟨hb, 0, none⟩)] .normal = (base 24).at ⟨#[.pointer (some ⟨hb, 0, none⟩), undef, undef, undef, undef, undef, undef, undef, undef, undef, undef, undef, undef, undef, undef, undef, undef, undef, undef, undef, undef, undef, undef, undef, undef, undef, undef, undef, undef], []⟩ [.code (Try.f24.body.getD .skip)] := by
    simp [Frame.enter, Frame.at, Try.func24, base, Try.f24]
  rw [e]
  refine LoneTo.goes (n := 60) ?_
  simp only [Try.f24, Option.getD_some]
  s_c stepG_seq
  s_reg
  s_op
  s_op
  s_c stepG_region_end
  s_c stepG_seq
  s_reg
  s_op
  s_c stepG_region_end
  s_c stepG_seq
  s_c stepG_seq
  s_reg
  s_op
  s_op
  s_c stepG_region_end
  s_cond false
  s_c stepG_skip
  s_c stepG_seq
  s_c stepG_seq
  s_reg
  s_op
  s_op
  s_op
  s_op
  s_c stepG_region_end
  s_c stepG_seq
  s_reg
  s_stop
  refine LoneTo.step (step_lone_select_default (c := c1) (z := (.string ⟨#[]⟩)) (cap := n) (s := s1) (r := r1) (tm := false) (stepG_comm (cases := #[rcase c1 (.string ⟨#[]⟩)]) (blocking := false) (shape := .select) (w' := w) rfl rfl (by decide) (by simp [go_sem, execOp, rcase, Act.eval])) hc1) ?_
  rw [Frame.finish_at]
  walk_nrm
  refine LoneTo.goes (n := 60) ?_
  s_op
  s_op
  s_c stepG_region_end
  s_c stepG_block
  s_cond false
  s_c stepG_skip
  s_c stepG_inBlock
  s_c stepG_seq
  s_reg
  s_op
  s_op
  s_op
  s_op
  s_c stepG_region_end
  s_c stepG_seq
  s_reg
  s_stop
  refine LoneTo.step (step_lone_select_default (c := c2) (z := (.string ⟨#[]⟩)) (cap := n) (s := s2) (r := r2) (tm := false) (stepG_comm (cases := #[rcase c2 (.string ⟨#[]⟩)]) (blocking := false) (shape := .select) (w' := w) rfl rfl (by decide) (by simp [go_sem, execOp, rcase, Act.eval])) hc2) ?_
  rw [Frame.finish_at]
  walk_nrm
  refine LoneTo.goes (n := 60) ?_
  s_op
  s_op
  s_c stepG_region_end
  s_c stepG_block
  s_cond false
  s_c stepG_seq
  s_reg
  s_op
  s_op
  s_op
  s_c stepG_region_end
  s_c stepG_ret'
  s_stop
  exact LoneTo.done ⟨.returned (.tuple #[(.string ⟨#[]⟩), .bool false]), _, rfl, ⟨rfl, rfl⟩, rfl, rfl, rfl, rfl, _, Try.func24, by simp [results, Try.f24, Frame.at]⟩
end Go.Proofs.Ytbfldeeggbnhiaa
